/- Lemmas and contracts (part 3) on which the claim's last text leans: The statement JournalMore: More is that of 25.1. No condition. -/
import Derived.Defers
import Derived.Recover
import Derived.Deep.RegionWith
import Derived.RangeFuncNested
import Derived.TacticsInMore
import Derived.StillTailTactics
import Derived.Sort.LoopGhostIn
import Derived.Sort.CutIn
import Derived.RegionIn
import Derived.Stop.RegionWithIn
import Derived.Maps.OwnIn
import Derived.RangeFuncLeaves
import Derived.Shelf.Abstract
import Derived.RegionCalls
import Derived.Test.YteblpjnkinghoaaMorM1
import Derived.Test.YteblpjnkinghoaaMorM2
set_option linter.unusedVariables false
set_option linter.unusedSimpArgs false
/- The program's note: what stands at a place of bytes. -/
set_option linter.unusedVariables false
set_option linter.unusedSimpArgs false
namespace Go.Proofs.Yteblpjnkinghoaa.J
open Go.RowKit Go.Proofs.YteblpjnkinghoaaW.PrintWords Go.Proofs.YteblpjnkinghoaaW.PrintLast Go.Proofs.YteblpjnkinghoaaW.PrintMore
/-- How the reading of a note ends: too early, at something wrong, or with a note, its sum and where it ends. -/
inductive Out where
  | torn
  | wrong
  | ok (n : S39) (sum : Int) (fin : Int)
/-- The sum's bytes: m of them are still to come, of e's, from place i on. -/
def tailOut (s e : ByteArray) (n : S39) (sum : Int) (i : Int) : Nat → Out
  | 0 => .ok n sum (i + 8)
  | m + 1 => if (s.size : Int) ≤ i + (8 - (m + 1 : Nat)) then .torn else if bt s (i + (8 - (m + 1 : Nat))) = bt e (8 - (m + 1 : Nat)) then tailOut s e n sum i m else .wrong
def peek8 (s : ByteArray) (i last kd u k has t : Int) : Out :=
  tailOut s (eightS (sumF last (s.extract i.toNat (i + 8 + k + t).toNat))) ⟨kd, u, s.extract (i + 5).toNat (i + 5 + k).toNat, decide (has = 1), s.extract (i + 8 + k).toNat (i + 8 + k + t).toNat⟩
    (sumF last (s.extract i.toNat (i + 8 + k + t).toNat)) (i + 8 + k + t) 8
def peek7 (s : ByteArray) (i last kd u k has most t : Int) : Out :=
  if t ≤ most ∧ (kd = 6 → 0 < t) then (if i + 8 + k + t ≤ (s.size : Int) then peek8 s i last kd u k has t else .torn) else .wrong
def peek6 (s : ByteArray) (i last kd u k has most : Int) : Out :=
  if i + 6 + k < (s.size : Int) then (if bt s (i + 6 + k) ≤ most / 256 then (if i + 7 + k < (s.size : Int) then peek7 s i last kd u k has most (bt s (i + 6 + k) * 256 + bt s (i + 7 + k)) else .torn) else .wrong) else .torn
def peek5 (s : ByteArray) (i last kd u k has : Int) : Out :=
  if has = 0 ∨ has = 1 ∧ (kd = 2 ∨ kd = 3) then peek6 s i last kd u k has (if kd = 6 then 40 else if has = 1 then 4000 else 0) else .wrong
def peek4 (s : ByteArray) (i last kd u k : Int) : Out :=
  if k ≤ 40 ∧ ((kd = 2 ∨ kd = 3) ↔ 0 < k) then (if i + 5 + k < (s.size : Int) then peek5 s i last kd u k (bt s (i + 5 + k)) else .torn) else .wrong
def peek3 (s : ByteArray) (i last kd u : Int) : Out :=
  if u ≤ 1000 ∧ (kd = 6 ↔ u = 0) then (if i + 4 < (s.size : Int) then peek4 s i last kd u (bt s (i + 4)) else .torn) else .wrong
def peek2 (s : ByteArray) (i last kd : Int) : Out :=
  if i + 2 < (s.size : Int) then (if bt s (i + 2) ≤ 3 ∧ (kd = 6 → bt s (i + 2) = 0) then (if i + 3 < (s.size : Int) then peek3 s i last kd (bt s (i + 2) * 256 + bt s (i + 3)) else .torn) else .wrong) else .torn
def peek1 (s : ByteArray) (i last : Int) : Out :=
  if i + 1 < (s.size : Int) then (if 1 ≤ bt s (i + 1) ∧ bt s (i + 1) ≤ 7 then peek2 s i last (bt s (i + 1)) else .wrong) else .torn
def peek (s : ByteArray) (i last : Int) : Out :=
  if i < (s.size : Int) then (if bt s i = 74 then peek1 s i last else .wrong) else .torn
def NoteEnd (R : Nat) (s : ByteArray) (w : World) : Out → Ending → World → Prop
  | .torn, e, w' => e = Dead 119 ∧ (∃ p, Rd R s p w') ∧ But (· = R) w w'
  | .wrong, e, w' => e = Dead 120 ∧ (∃ p, Rd R s p w') ∧ But (· = R) w w'
  | .ok n sum fin, e, w' => e = .returned (.tuple #[.agg #[.int .i64 n.f0, .int .i64 n.f1, .string n.f2, .bool n.f3, .string n.f4], .int .u64 sum]) ∧ Rd R s fin w' ∧ But (· = R) w w'

/-- A note in block N. -/
structure Nt (N : Nat) (a b : Int) (c : ByteArray) (d : Bool) (e : ByteArray) (w : World) : Prop where
  c0 : w.cell? ⟨N, 0, none⟩ = some (.int .i64 a)
  c1 : w.cell? ⟨N, 1, none⟩ = some (.int .i64 b)
  c2 : w.cell? ⟨N, 2, none⟩ = some (.string c)
  c3 : w.cell? ⟨N, 3, none⟩ = some (.bool d)
  c4 : w.cell? ⟨N, 4, none⟩ = some (.string e)
  z0 : w.frozen? ⟨N, 0, none⟩ = false
  z1 : w.frozen? ⟨N, 1, none⟩ = false
  z2 : w.frozen? ⟨N, 2, none⟩ = false
  z3 : w.frozen? ⟨N, 3, none⟩ = false
  z4 : w.frozen? ⟨N, 4, none⟩ = false
theorem Nt.past {N : Nat} {a b : Int} {c : ByteArray} {d : Bool} {e : ByteArray} {S : Nat → Prop} {w w' : World} (h : Nt N a b c d e w) (hb : But S w w') (hn : ¬ S N) : Nt N a b c d e w' :=
  have hl : N < w.heap.size := cell_lt h.c0
  ⟨(hb.cell (p := ⟨N, 0, none⟩) hl hn).trans h.c0, (hb.cell (p := ⟨N, 1, none⟩) hl hn).trans h.c1, (hb.cell (p := ⟨N, 2, none⟩) hl hn).trans h.c2, (hb.cell (p := ⟨N, 3, none⟩) hl hn).trans h.c3, (hb.cell (p := ⟨N, 4, none⟩) hl hn).trans h.c4,
   (hb.frozen (p := ⟨N, 0, none⟩) hl hn).trans h.z0, (hb.frozen (p := ⟨N, 1, none⟩) hl hn).trans h.z1, (hb.frozen (p := ⟨N, 2, none⟩) hl hn).trans h.z2, (hb.frozen (p := ⟨N, 3, none⟩) hl hn).trans h.z3, (hb.frozen (p := ⟨N, 4, none⟩) hl hn).trans h.z4⟩
theorem Nt.new {N : Nat} {a b : Int} {c : ByteArray} {d : Bool} {e : ByteArray} {w : World} (h : w.heap[N]? = some (.cells #[.int .i64 a, .int .i64 b, .string c, .bool d, .string e] 39 (0, 0))) : Nt N a b c d e w :=
  ⟨(blk_cell h 0).trans rfl, (blk_cell h 1).trans rfl, (blk_cell h 2).trans rfl, (blk_cell h 3).trans rfl, (blk_cell h 4).trans rfl, blk_frozen h 0, blk_frozen h 1, blk_frozen h 2, blk_frozen h 3, blk_frozen h 4⟩
theorem Nt.s1 {N : Nat} {a b : Int} {c : ByteArray} {d : Bool} {e : ByteArray} {w : World} (h : Nt N a b c d e w) (x : Int) : Nt N a x c d e (w.setCell ⟨N, 1, none⟩ (.int .i64 x)) :=
  ⟨(World.cell?_setCell_other _ _ _ _ (by simp)).trans h.c0, World.cell?_setCell_same _ _ _ h.c1, (World.cell?_setCell_other _ _ _ _ (by simp)).trans h.c2, (World.cell?_setCell_other _ _ _ _ (by simp)).trans h.c3, (World.cell?_setCell_other _ _ _ _ (by simp)).trans h.c4,
   (World.frozen?_setCell _ _ _ _).trans h.z0, (World.frozen?_setCell _ _ _ _).trans h.z1, (World.frozen?_setCell _ _ _ _).trans h.z2, (World.frozen?_setCell _ _ _ _).trans h.z3, (World.frozen?_setCell _ _ _ _).trans h.z4⟩
theorem Nt.s2 {N : Nat} {a b : Int} {c : ByteArray} {d : Bool} {e : ByteArray} {w : World} (h : Nt N a b c d e w) (x : ByteArray) : Nt N a b x d e (w.setCell ⟨N, 2, none⟩ (.string x)) :=
  ⟨(World.cell?_setCell_other _ _ _ _ (by simp)).trans h.c0, (World.cell?_setCell_other _ _ _ _ (by simp)).trans h.c1, World.cell?_setCell_same _ _ _ h.c2, (World.cell?_setCell_other _ _ _ _ (by simp)).trans h.c3, (World.cell?_setCell_other _ _ _ _ (by simp)).trans h.c4,
   (World.frozen?_setCell _ _ _ _).trans h.z0, (World.frozen?_setCell _ _ _ _).trans h.z1, (World.frozen?_setCell _ _ _ _).trans h.z2, (World.frozen?_setCell _ _ _ _).trans h.z3, (World.frozen?_setCell _ _ _ _).trans h.z4⟩
theorem Nt.s3 {N : Nat} {a b : Int} {c : ByteArray} {d : Bool} {e : ByteArray} {w : World} (h : Nt N a b c d e w) (x : Bool) : Nt N a b c x e (w.setCell ⟨N, 3, none⟩ (.bool x)) :=
  ⟨(World.cell?_setCell_other _ _ _ _ (by simp)).trans h.c0, (World.cell?_setCell_other _ _ _ _ (by simp)).trans h.c1, (World.cell?_setCell_other _ _ _ _ (by simp)).trans h.c2, World.cell?_setCell_same _ _ _ h.c3, (World.cell?_setCell_other _ _ _ _ (by simp)).trans h.c4,
   (World.frozen?_setCell _ _ _ _).trans h.z0, (World.frozen?_setCell _ _ _ _).trans h.z1, (World.frozen?_setCell _ _ _ _).trans h.z2, (World.frozen?_setCell _ _ _ _).trans h.z3, (World.frozen?_setCell _ _ _ _).trans h.z4⟩
theorem Nt.s4 {N : Nat} {a b : Int} {c : ByteArray} {d : Bool} {e : ByteArray} {w : World} (h : Nt N a b c d e w) (x : ByteArray) : Nt N a b c d x (w.setCell ⟨N, 4, none⟩ (.string x)) :=
  ⟨(World.cell?_setCell_other _ _ _ _ (by simp)).trans h.c0, (World.cell?_setCell_other _ _ _ _ (by simp)).trans h.c1, (World.cell?_setCell_other _ _ _ _ (by simp)).trans h.c2, (World.cell?_setCell_other _ _ _ _ (by simp)).trans h.c3, World.cell?_setCell_same _ _ _ h.c4,
   (World.frozen?_setCell _ _ _ _).trans h.z0, (World.frozen?_setCell _ _ _ _).trans h.z1, (World.frozen?_setCell _ _ _ _).trans h.z2, (World.frozen?_setCell _ _ _ _).trans h.z3, (World.frozen?_setCell _ _ _ _).trans h.z4⟩
abbrev nil39 : Obj := .cells #[.int .i64 0, .int .i64 0, .string ⟨#[]⟩, .bool false, .string ⟨#[]⟩] 39
theorem far_ne {p : Addr} {N k : Nat} (h : ¬ p.block = N) : p ≠ ⟨N, k, none⟩ := fun e => h (by rw [e])
theorem Rd.far {R : Nat} {s : ByteArray} {i : Int} {w : World} (h : Rd R s i w) {p : Addr} (hp : ¬ p.block = R) (v : Value) : Rd R s i (w.setCell p v) :=
  ⟨(World.cell?_setCell_other _ _ _ _ (far_ne hp)).trans h.str, (World.cell?_setCell_other _ _ _ _ (far_ne hp)).trans h.pos, (World.frozen?_setCell _ _ _ _).trans h.fz⟩
theorem Nt.far {N : Nat} {a b : Int} {c : ByteArray} {d : Bool} {e : ByteArray} {w : World} (h : Nt N a b c d e w) {p : Addr} (hp : ¬ p.block = N) (v : Value) : Nt N a b c d e (w.setCell p v) :=
  ⟨(World.cell?_setCell_other _ _ _ _ (far_ne hp)).trans h.c0, (World.cell?_setCell_other _ _ _ _ (far_ne hp)).trans h.c1, (World.cell?_setCell_other _ _ _ _ (far_ne hp)).trans h.c2, (World.cell?_setCell_other _ _ _ _ (far_ne hp)).trans h.c3, (World.cell?_setCell_other _ _ _ _ (far_ne hp)).trans h.c4,
   (World.frozen?_setCell _ _ _ _).trans h.z0, (World.frozen?_setCell _ _ _ _).trans h.z1, (World.frozen?_setCell _ _ _ _).trans h.z2, (World.frozen?_setCell _ _ _ _).trans h.z3, (World.frozen?_setCell _ _ _ _).trans h.z4⟩
theorem But.new {S : Nat → Prop} {a w : World} (h : But S a w) {p : Addr} (hp : a.heap.size ≤ p.block) (v : Value) : But S a (w.setCell p v) := by
  refine ⟨?_, ?_, ?_, ?_, ?_⟩
  · simpa [World.setCell] using h.os
  · simpa [World.setCell] using h.tape
  · simpa [World.setCell] using h.output
  · simpa [World.setCell] using h.size
  · intro k hk hs
    rw [Below.heap_setCell w p v k (by omega)]
    exact h.block k hk hs
structure Zt (Z : Nat) (w : World) : Prop where
  blk : w.heap[Z]? = some nil39
theorem Zt.past {Z : Nat} {S : Nat → Prop} {w w' : World} (h : Zt Z w) (hb : But S w w') (hn : ¬ S Z) : Zt Z w' := ⟨(hb.block Z (blk_lt h.blk) hn).trans h.blk⟩
theorem Zt.far {Z : Nat} {w : World} (h : Zt Z w) {p : Addr} (hp : ¬ p.block = Z) (v : Value) : Zt Z (w.setCell p v) := ⟨(Below.heap_setCell w p v Z (fun e => hp e.symm)).trans h.blk⟩
set_option maxHeartbeats 8000000 in
set_option maxRecDepth 100000 in
theorem note_calls (R : Nat) (s : ByteArray) (i last : Int) (w : World) (h : Rd R s i w) (hi : 0 ≤ i) (hb : (s.size : Int) ≤ 100000) (hi2 : i ≤ s.size) :
    Calls Try.prog 87 #[.pointer (some ⟨R, 0, none⟩), .int .u64 last] w (NoteEnd R s w (peek s i last)) := by
  obtain ⟨o, ho⟩ : ∃ o, peek s i last = o := ⟨_, rfl⟩
  rw [ho]
  have hB0 : Below w.heap.size w (w.alloc nil39) := (Below.refl _ _).alloc (Nat.le_refl _) _
  have h0 := h.past hB0
  have hZ : Zt w.heap.size (w.alloc nil39) := ⟨heap_alloc_new _ _⟩
  have hRZ : ¬ w.heap.size = R := by have := h.lt; omega
  have hpos := h0.pos
  have HB := But.of_below (S := (· = R)) hB0
  unfold peek at ho
  go_enter Try.func87, Try.ntmps87
  go_upto_region 2 with (fail)
  generalize hz : w.heap.size = Z at hZ hRZ ⊢
  generalize hw1 : w.alloc nil39 = w1 at h0 hZ HB hpos ⊢
  clear hB0 hw1 hpos
  -- the mark
  by_cases c1 : i < (s.size : Int)
  rotate_left
  · rw [if_neg c1] at ho
    subst ho
    go_wp2_with (go_at_call 92; refine (number_torn R s i _ h0 hi (by omega) (by omega)).mono ?_; rintro e w2 ⟨rfl, h2, hb2⟩)
    exact ⟨rfl, rfl, ⟨_, h2⟩, HB.trans hb2⟩
  rw [if_pos c1] at ho
  by_cases c2 : bt s i = 74
  rotate_left
  · rw [if_neg c2] at ho
    subst ho
    have d2 : (bt s i == 74) = false := by simp [c2]
    go_wp2_with (first | (go_at_call 92; refine (number_ok R s i _ h0 hi c1 (by omega)).mono ?_; rintro e w1 ⟨rfl, h1, hB1⟩) | (go_at_call 91; (try rw [d2]); refine (must_no _).mono ?_; rintro e w2 ⟨rfl, rfl⟩))
    exact ⟨rfl, rfl, ⟨_, h1⟩, HB.trans hB1⟩
  rw [if_pos c2] at ho
  go_upto_region 3 with (first | (go_at_call 92; refine (number_ok R s i _ h0 hi c1 (by omega)).mono ?_; rintro e w1 ⟨rfl, h1, hB1⟩; rw [c2]) | (go_at_call 91; refine (must_ok _).mono ?_; rintro e w2 ⟨rfl, rfl⟩))
  have hZ2 := hZ.past hB1 hRZ
  have HB2 := HB.trans hB1
  clear hZ HB hB1 h0
  -- the kind
  unfold peek1 at ho
  obtain ⟨kd, hkd⟩ : ∃ kd, bt s (i + 1) = kd := ⟨_, rfl⟩
  have hkr := bt_range s (i + 1)
  rw [hkd] at ho hkr
  by_cases c3 : i + 1 < (s.size : Int)
  rotate_left
  · rw [if_neg c3] at ho
    subst ho
    go_wp2_with (go_at_call 92; refine (number_torn R s (i + 1) _ h1 (by omega) (by omega) (by omega)).mono ?_; rintro e w2 ⟨rfl, h2, hb2⟩)
    exact ⟨rfl, rfl, ⟨_, h2⟩, HB2.trans hb2⟩
  rw [if_pos c3] at ho
  go_upto_region 4 with (go_at_call 92; refine (number_ok R s (i + 1) _ h1 (by omega) c3 (by omega)).mono ?_; rintro e w3 ⟨rfl, h3, hB3⟩; rw [hkd])
  have hN : Nt w3.heap.size kd 0 ⟨#[]⟩ false ⟨#[]⟩ (w3.alloc (.cells #[.int .i64 kd, .int .i64 0, .string ⟨#[]⟩, .bool false, .string ⟨#[]⟩] 39)) := Nt.new (heap_alloc_new _ _)
  have hb4 := (Below.refl w3.heap.size w3).alloc (Nat.le_refl _) (.cells #[.int .i64 kd, .int .i64 0, .string ⟨#[]⟩, .bool false, .string ⟨#[]⟩] 39)
  have h4 := h3.past hb4
  rw [show i + 1 + 1 = i + 2 by omega] at h4
  have HB := (HB2.trans hB3).trans (But.of_below hb4)
  have hZ := (hZ2.past hB3 hRZ).past (But.of_below (S := (· = R)) hb4) hRZ
  have hRN : ¬ w3.heap.size = R := by have := h3.lt; omega
  have hNw : w.heap.size ≤ w3.heap.size := (HB2.trans hB3).size
  have hZN : ¬ Z = w3.heap.size := by have := blk_lt (hZ2.past hB3 hRZ).blk; omega
  generalize hn : w3.heap.size = N at hN hRN hZN hNw ⊢
  generalize w3.alloc (.cells #[.int .i64 kd, .int .i64 0, .string ⟨#[]⟩, .bool false, .string ⟨#[]⟩] 39) = w4 at h4 hN HB hZ ⊢
  clear hB3 hZ2 HB2 h3 hb4 h1 hn
  have hn0 := hN.c0
  by_cases c4 : 1 ≤ kd ∧ kd ≤ 7
  rotate_left
  · rw [if_neg c4] at ho
    subst ho
    by_cases c5 : 1 ≤ kd
    · have d4 : decide (1 ≤ kd) = true := decide_eq_true c5
      have d5 : decide (kd ≤ 7) = false := decide_eq_false (by omega)
      go_wp2_with (go_at_call 91; refine (must_no _).mono ?_; rintro e w5 ⟨rfl, rfl⟩)
      exact ⟨rfl, rfl, ⟨_, h4⟩, HB⟩
    · have d4 : decide (1 ≤ kd) = false := decide_eq_false c5
      go_wp2_with (go_at_call 91; refine (must_no _).mono ?_; rintro e w5 ⟨rfl, rfl⟩)
      exact ⟨rfl, rfl, ⟨_, h4⟩, HB⟩
  rw [if_pos c4] at ho
  have d4 : decide (1 ≤ kd) = true := decide_eq_true c4.1
  have d5 : decide (kd ≤ 7) = true := decide_eq_true c4.2
  go_upto_region 5 with (go_at_call 91; refine (must_ok _).mono ?_; rintro e w5 ⟨rfl, rfl⟩)
  -- pictured
  obtain ⟨P, hP⟩ : ∃ P : Bool, P = decide (kd = 2 ∨ kd = 3) := ⟨_, rfl⟩
  clear d4 d5
  go_cut [8] (fun v8 wc => v8 = .bool P ∧ wc = w5)
  case first =>
    by_cases c6 : kd = 2
    · have d6 : (kd == 2) = true := by simp [c6]
      go_wp2
      go_meet
      case rel => exact ⟨by simp [hP, c6], rfl⟩
    · have d6 : (kd == 2) = false := by simp [c6]
      go_wp2
      go_meet
      case rel => exact ⟨by simp [hP, c6]; rfl, rfl⟩
  replace hP := Aside0.mk hP
  obtain ⟨rfl, rfl⟩ := hcut
  -- the unit's high byte
  unfold peek2 at ho
  by_cases c7 : i + 2 < (s.size : Int)
  rotate_left
  · rw [if_neg c7] at ho
    subst ho
    go_wp2_with (go_at_call 92; refine (number_torn R s (i + 2) _ h4 (by omega) (by omega) (by omega)).mono ?_; rintro e w2 ⟨rfl, h2, hb2⟩)
    exact ⟨rfl, rfl, ⟨_, h2⟩, HB.trans hb2⟩
  rw [if_pos c7] at ho
  obtain ⟨hg, hhg⟩ : ∃ hg, bt s (i + 2) = hg := ⟨_, rfl⟩
  have hgr := bt_range s (i + 2)
  rw [hhg] at ho hgr
  go_upto_region 7 with (go_at_call 92; refine (number_ok R s (i + 2) _ h4 (by omega) c7 (by omega)).mono ?_; rintro e w6 ⟨rfl, h6, hB6⟩; rw [hhg])
  rw [show i + 2 + 1 = i + 3 by omega] at h6
  replace HB := HB.trans hB6
  replace hN := hN.past hB6 hRN
  replace hZ := hZ.past hB6 hRZ
  clear hB6 h4 hn0
  have hn0 := hN.c0
  by_cases c8 : hg ≤ 3 ∧ (kd = 6 → hg = 0)
  rotate_left
  · rw [if_neg c8] at ho
    subst ho
    by_cases c9 : hg ≤ 3
    · have d9 : decide (hg ≤ 3) = true := decide_eq_true c9
      have d10 : (kd != 6) = false := by have : kd = 6 := by omega
                                         simp [this]
      have d11 : (hg == 0) = false := by have : hg ≠ 0 := by omega
                                         simp [this]
      go_wp2_with (go_at_call 91; refine (must_no _).mono ?_; rintro e w7 ⟨rfl, rfl⟩)
      exact ⟨rfl, rfl, ⟨_, h6⟩, HB⟩
    · have d9 : decide (hg ≤ 3) = false := decide_eq_false c9
      go_wp2_with (go_at_call 91; refine (must_no _).mono ?_; rintro e w7 ⟨rfl, rfl⟩)
      exact ⟨rfl, rfl, ⟨_, h6⟩, HB⟩
  rw [if_pos c8] at ho
  have d9 : decide (hg ≤ 3) = true := decide_eq_true c8.1
  go_cut [8, 9] (fun v8 v9 wc => v8 = .bool P ∧ v9 = .int .i64 hg ∧ wc = w6)
  case first =>
    by_cases c10 : kd = 6
    · have d10 : (kd != 6) = false := by simp [c10]
      have d11 : (hg == 0) = true := by simp [c8.2 c10]
      go_wp2_with (go_at_call 91; refine (must_ok _).mono ?_; rintro e w7 ⟨rfl, rfl⟩)
      go_meet
      case rel => exact ⟨rfl, by simp [c8.2 c10], rfl⟩
    · have d10 : (kd != 6) = true := by simp [c10]
      go_wp2_with (go_at_call 91; refine (must_ok _).mono ?_; rintro e w7 ⟨rfl, rfl⟩)
      go_meet
      case rel => exact ⟨rfl, rfl, rfl⟩
  obtain ⟨rfl, rfl, rfl⟩ := hcut
  clear d9 hn0
  -- the unit's low byte
  by_cases c11 : i + 3 < (s.size : Int)
  rotate_left
  · rw [if_neg c11] at ho
    subst ho
    go_wp2_with (go_at_call 92; refine (number_torn R s (i + 3) _ h6 (by omega) (by omega) (by omega)).mono ?_; rintro e w2 ⟨rfl, h2, hb2⟩)
    exact ⟨rfl, rfl, ⟨_, h2⟩, HB.trans hb2⟩
  rw [if_pos c11] at ho
  obtain ⟨lo, hlo⟩ : ∃ lo, bt s (i + 3) = lo := ⟨_, rfl⟩
  have hlr := bt_range s (i + 3)
  rw [hlo] at ho hlr
  have hor : Go.bits .or .i64 (hg * 256) lo = hg * 256 + lo := i64_or8 (by omega) (by omega) (by omega) hlr.1 (by omega)
  go_upto_region 9 with (go_at_call 92; refine (number_ok R s (i + 3) _ h6 (by omega) c11 (by omega)).mono ?_; rintro e w7 ⟨rfl, h7, hB7⟩; rw [hlo]; have hN7 := hN.past hB7 hRN; have hn1 := hN7.c1; have hz1 := hN7.z1)
  rw [show i + 3 + 1 = i + 4 by omega] at h7
  have hNZ : ¬ N = Z := fun e => hZN e.symm
  have h8 := h7.far (p := ⟨N, 1, none⟩) hRN (.int .i64 (hg * 256 + lo))
  have HB8 := (HB.trans hB7).new (p := ⟨N, 1, none⟩) hNw (.int .i64 (hg * 256 + lo))
  have hZ8 := (hZ.past hB7 hRZ).far (p := ⟨N, 1, none⟩) hNZ (.int .i64 (hg * 256 + lo))
  have hN8 := hN7.s1 (hg * 256 + lo)
  have hur : 0 ≤ hg * 256 + lo ∧ hg * 256 + lo ≤ 1023 := by omega
  clear hor h7 hB7 hN7 hn1 hz1 HB hZ hN h6
  generalize hu : hg * 256 + lo = u at ho h8 HB8 hZ8 hN8 hur ⊢
  generalize w7.setCell ⟨N, 1, none⟩ (.int .i64 u) = w8 at h8 HB8 hZ8 hN8 ⊢
  unfold peek3 at ho
  have hn0 := hN8.c0
  have hn1 := hN8.c1
  by_cases c12 : u ≤ 1000 ∧ (kd = 6 ↔ u = 0)
  rotate_left
  · rw [if_neg c12] at ho
    subst ho
    by_cases cu : 1 ≤ u ∧ u ≤ 1000
    · have hU : journal_unit.f u = some true := by simp [journal_unit.f, cu.1, cu.2]
      have ck : kd = 6 := by omega
      have d10 : (kd != 6) = false := by simp [ck]
      have d12 : (kd == 6) = true := by simp [ck]
      have d13 : (u == 0) = false := by simp; omega
      clear ck cu
      go_wp2_with (first | (go_at_call 65; refine (journal_unit.calls _ true _ hU).mono ?_; rintro e w9 ⟨rfl, hd⟩; have hb9 := hd.below; have hN9 := hN8.past (But.of_below (S := (· = R)) hb9) hRN; have hn0 := hN9.c0; have hn1 := hN9.c1; have h9 := h8.past hb9) | (go_at_call 91; refine (must_no _).mono ?_; rintro e w10 ⟨rfl, rfl⟩))
      exact ⟨rfl, rfl, ⟨_, h9⟩, HB8.trans (But.of_below hb9)⟩
    · have hU : journal_unit.f u = some false := by
        unfold journal_unit.f
        split
        · simp; omega
        · rfl
      clear cu
      by_cases ck : kd = 6
      · have d12 : (kd == 6) = true := by simp [ck]
        have d13 : (u == 0) = false := by simp; omega
        clear ck
        go_wp2_with (first | (go_at_call 65; refine (journal_unit.calls _ false _ hU).mono ?_; rintro e w9 ⟨rfl, hd⟩; have hb9 := hd.below; have hN9 := hN8.past (But.of_below (S := (· = R)) hb9) hRN; have hn0 := hN9.c0; have hn1 := hN9.c1; have h9 := h8.past hb9) | (go_at_call 91; refine (must_no _).mono ?_; rintro e w10 ⟨rfl, rfl⟩))
        exact ⟨rfl, rfl, ⟨_, h9⟩, HB8.trans (But.of_below hb9)⟩
      · have d12 : (kd == 6) = false := by simp [ck]
        clear ck
        go_wp2_with (first | (go_at_call 65; refine (journal_unit.calls _ false _ hU).mono ?_; rintro e w9 ⟨rfl, hd⟩; have hb9 := hd.below; have hN9 := hN8.past (But.of_below (S := (· = R)) hb9) hRN; have hn0 := hN9.c0; have hn1 := hN9.c1; have h9 := h8.past hb9) | (go_at_call 91; refine (must_no _).mono ?_; rintro e w10 ⟨rfl, rfl⟩))
        exact ⟨rfl, rfl, ⟨_, h9⟩, HB8.trans (But.of_below hb9)⟩
  rw [if_pos c12] at ho
  go_cut [8, 9] (fun v8 v9 wc => v8 = .bool P ∧ v9 = .int .i64 hg ∧ Aside0 (Below w8.heap.size w8 wc))
  case first =>
    by_cases ck : kd = 6
    · have hu0 : u = 0 := c12.2.1 ck
      have hU : journal_unit.f u = some false := by rw [hu0]; rfl
      have d12 : (kd == 6) = true := by simp [ck]
      have d13 : (u == 0) = true := by simp [hu0]
      clear ck hu0
      go_wp2_with (first | (go_at_call 65; refine (journal_unit.calls _ false _ hU).mono ?_; rintro e w9 ⟨rfl, hd⟩; have hb9 := hd.below; have hN9 := hN8.past (But.of_below (S := (· = R)) hb9) hRN; have hn0 := hN9.c0; have hn1 := hN9.c1; have h9 := h8.past hb9) | (go_at_call 91; refine (must_ok _).mono ?_; rintro e w10 ⟨rfl, rfl⟩))
      go_meet
      case rel => exact ⟨rfl, rfl, ⟨hb9⟩⟩
    · have hU : journal_unit.f u = some true := by
        have : 1 ≤ u := by omega
        simp [journal_unit.f, this, c12.1]
      have d10 : (kd != 6) = true := by simp [ck]
      clear ck
      go_wp2_with (first | (go_at_call 65; refine (journal_unit.calls _ true _ hU).mono ?_; rintro e w9 ⟨rfl, hd⟩; have hb9 := hd.below; have hN9 := hN8.past (But.of_below (S := (· = R)) hb9) hRN; have hn0 := hN9.c0; have hn1 := hN9.c1; have h9 := h8.past hb9) | (go_at_call 91; refine (must_ok _).mono ?_; rintro e w10 ⟨rfl, rfl⟩))
      go_meet
      case rel => exact ⟨rfl, rfl, ⟨hb9⟩⟩
  obtain ⟨rfl, rfl, ⟨hb9⟩⟩ := hcut
  replace h8 := h8.past hb9
  have HB := HB8.trans (But.of_below hb9)
  have hZ := hZ8.past (But.of_below (S := (· = R)) hb9) hRZ
  have hN := hN8.past (But.of_below (S := (· = R)) hb9) hRN
  clear hb9 HB8 hZ8 hN8 hn0 hn1
  -- the key's length
  by_cases c13 : i + 4 < (s.size : Int)
  rotate_left
  · rw [if_neg c13] at ho
    subst ho
    go_wp2_with (go_at_call 92; refine (number_torn R s (i + 4) _ h8 (by omega) (by omega) (by omega)).mono ?_; rintro e w2 ⟨rfl, h2, hb2⟩)
    exact ⟨rfl, rfl, ⟨_, h2⟩, HB.trans hb2⟩
  rw [if_pos c13] at ho
  obtain ⟨k, hk⟩ : ∃ k, bt s (i + 4) = k := ⟨_, rfl⟩
  have hkr2 := bt_range s (i + 4)
  rw [hk] at ho hkr2
  go_upto_region 11 with (go_at_call 92; refine (number_ok R s (i + 4) _ h8 (by omega) c13 (by omega)).mono ?_; rintro e w9 ⟨rfl, h9, hB9⟩; rw [hk])
  rw [show i + 4 + 1 = i + 5 by omega] at h9
  replace HB := HB.trans hB9
  replace hN := hN.past hB9 hRN
  replace hZ := hZ.past hB9 hRZ
  clear hB9 h8
  unfold peek4 at ho
  by_cases c14 : k ≤ 40 ∧ ((kd = 2 ∨ kd = 3) ↔ 0 < k)
  rotate_left
  · rw [if_neg c14] at ho
    subst ho
    by_cases ck : k ≤ 40
    · have d14 : decide (k ≤ 40) = true := decide_eq_true ck
      have d15 : (P == decide (0 < k)) = false := by
        rw [hP.out]
        simp only [beq_eq_false_iff_ne, ne_eq, decide_eq_decide]
        exact fun hx => c14 ⟨ck, hx⟩
      clear ck
      go_wp2_with (go_at_call 91; refine (must_no _).mono ?_; rintro e w10 ⟨rfl, rfl⟩)
      exact ⟨rfl, rfl, ⟨_, h9⟩, HB⟩
    · have d14 : decide (k ≤ 40) = false := decide_eq_false ck
      clear ck
      go_wp2_with (go_at_call 91; refine (must_no _).mono ?_; rintro e w10 ⟨rfl, rfl⟩)
      exact ⟨rfl, rfl, ⟨_, h9⟩, HB⟩
  rw [if_pos c14] at ho
  have d14 : decide (k ≤ 40) = true := decide_eq_true c14.1
  have d15 : (P == decide (0 < k)) = true := by
    rw [hP.out]
    simp only [beq_iff_eq, decide_eq_decide]
    exact c14.2
  go_upto_region 12 with (go_at_call 91; refine (must_ok _).mono ?_; rintro e w10 ⟨rfl, rfl⟩)
  -- the key
  by_cases c15 : i + 5 + k ≤ (s.size : Int)
  rotate_left
  · rw [if_neg (by omega)] at ho
    subst ho
    go_wp2_with (go_at_call 93; refine (bytes_torn R s (i + 5) k _ h9 (by omega) (by omega) (by omega) (by omega) (by omega)).mono ?_; rintro e w2 ⟨rfl, h2, hb2⟩)
    exact ⟨rfl, rfl, ⟨_, h2⟩, HB.trans hb2⟩
  obtain ⟨key, hkey⟩ : ∃ key, s.extract (i + 5).toNat (i + 5 + k).toNat = key := ⟨_, rfl⟩
  go_upto_region 13 with (go_at_call 93; refine (bytes_ok R s (i + 5) k _ h9 (by omega) (by omega) c15 (by omega)).mono ?_; rintro e w11 ⟨rfl, h11, hB11⟩; rw [hkey]; have hN11 := hN.past hB11 hRN; have hn2 := hN11.c2; have hz2 := hN11.z2)
  have h12 := h11.far (p := ⟨N, 2, none⟩) hRN (.string key)
  replace HB := (HB.trans hB11).new (p := ⟨N, 2, none⟩) hNw (.string key)
  replace hZ := (hZ.past hB11 hRZ).far (p := ⟨N, 2, none⟩) hNZ (.string key)
  replace hN := hN11.s2 key
  clear h11 hB11 hN11 hn2 hz2 h9 d14 d15
  generalize w11.setCell ⟨N, 2, none⟩ (.string key) = w12 at h12 HB hZ hN ⊢
  -- whether it has
  by_cases c16 : i + 5 + k < (s.size : Int)
  rotate_left
  · rw [if_neg c16] at ho
    subst ho
    go_wp2_with (go_at_call 92; refine (number_torn R s (i + 5 + k) _ h12 (by omega) (by omega) (by omega)).mono ?_; rintro e w2 ⟨rfl, h2, hb2⟩)
    exact ⟨rfl, rfl, ⟨_, h2⟩, HB.trans hb2⟩
  rw [if_pos c16] at ho
  obtain ⟨hs, hhs⟩ : ∃ hs, bt s (i + 5 + k) = hs := ⟨_, rfl⟩
  have hsr := bt_range s (i + 5 + k)
  rw [hhs] at ho hsr
  go_upto_region 14 with (go_at_call 92; refine (number_ok R s (i + 5 + k) _ h12 (by omega) c16 (by omega)).mono ?_; rintro e w13 ⟨rfl, h13, hB13⟩; rw [hhs])
  rw [show i + 5 + k + 1 = i + 6 + k by omega] at h13
  replace HB := HB.trans hB13
  replace hN := hN.past hB13 hRN
  replace hZ := hZ.past hB13 hRZ
  clear hB13 h12
  unfold peek5 at ho
  by_cases c17 : hs = 0 ∨ hs = 1 ∧ (kd = 2 ∨ kd = 3)
  rotate_left
  · rw [if_neg c17] at ho
    subst ho
    have d16 : (hs == 0) = false := by simp; omega
    by_cases c1 : hs = 1
    · have d17 : (hs == 1) = true := by simp [c1]
      have d18 : P = false := by
        rw [hP.out]
        exact decide_eq_false (by omega)
      subst d18
      clear c1
      go_wp2_with (go_at_call 91; refine (must_no _).mono ?_; rintro e w10 ⟨rfl, rfl⟩)
      exact ⟨rfl, rfl, ⟨_, h13⟩, HB⟩
    · have d17 : (hs == 1) = false := by simp [c1]
      clear c1
      go_wp2_with (go_at_call 91; refine (must_no _).mono ?_; rintro e w10 ⟨rfl, rfl⟩)
      exact ⟨rfl, rfl, ⟨_, h13⟩, HB⟩
  rw [if_pos c17] at ho
  go_cut [8, 9, 10, 11] (fun v8 v9 v10 v11 wc => v11 = .int .i64 hs ∧ wc = w13)
  case first =>
    by_cases c1 : hs = 0
    · have d16 : (hs == 0) = true := by simp [c1]
      clear c1
      go_wp2_with (go_at_call 91; refine (must_ok _).mono ?_; rintro e w10 ⟨rfl, rfl⟩)
      go_meet
      case rel => exact ⟨by simp at d16; rw [d16], rfl⟩
    · have d16 : (hs == 0) = false := by simp [c1]
      have d17 : (hs == 1) = true := by simp; omega
      have d18 : P = true := by
        rw [hP.out]
        exact decide_eq_true (by omega)
      subst d18
      clear c1
      go_wp2_with (go_at_call 91; refine (must_ok _).mono ?_; rintro e w10 ⟨rfl, rfl⟩)
      go_meet
      case rel => exact ⟨by simp at d17; rw [d17], rfl⟩
  obtain ⟨rfl, rfl⟩ := hcut
  have hn3 := hN.c3
  have hz3 := hN.z3
  obtain ⟨H, hH⟩ : ∃ H, (hs == 1) = H := ⟨_, rfl⟩
  go_upto_block 0 with (fail)
  have h14 := h13.far (p := ⟨N, 3, none⟩) hRN (.bool H)
  replace HB := HB.new (p := ⟨N, 3, none⟩) hNw (.bool H)
  replace hZ := hZ.far (p := ⟨N, 3, none⟩) hNZ (.bool H)
  replace hN := hN.s3 H
  clear hn3 hz3 h13
  replace hH := Aside0.mk hH
  generalize wc.setCell ⟨N, 3, none⟩ (.bool H) = w14 at h14 HB hZ hN ⊢
  have hn0 := hN.c0
  have hn3 := hN.c3
  obtain ⟨most, hmost⟩ : ∃ m, (if kd = 6 then 40 else if hs = 1 then 4000 else (0 : Int)) = m := ⟨_, rfl⟩
  rw [hmost] at ho
  replace hmost := Aside0.mk hmost
  go_cut [8, 9, 10, 11, 12] (fun v8 v9 v10 v11 v12 wc => v12 = .int .i64 most ∧ wc = w14)
  case first =>
    by_cases ck : kd = 6
    · have d20 : (kd == 6) = true := by simp [ck]
      clear ck
      go_wp2
      go_meet
      case rel => exact ⟨by simp at d20; rw [← hmost.out, if_pos d20], rfl⟩
    · have d20 : (kd == 6) = false := by simp [ck]
      by_cases ch : hs = 1
      · have d21 : H = true := by rw [← hH.out]; simp [ch]
        subst d21
        have hm := hmost.out
        rw [if_neg ck, if_pos ch] at hm
        subst hm
        clear ck ch
        go_wp2
        go_meet
        case rel => exact ⟨rfl, rfl⟩
      · have d21 : H = false := by rw [← hH.out]; simp [ch]
        subst d21
        have hm := hmost.out
        rw [if_neg ck, if_neg ch] at hm
        subst hm
        clear ck ch
        go_wp2
        go_meet
        case rel => exact ⟨rfl, rfl⟩
  obtain ⟨rfl, rfl⟩ := hcut
  have hmr : 0 ≤ most ∧ most ≤ 4000 := by
    rw [← hmost.out]
    split
    · omega
    · split <;> omega
  clear hn0 hn3
  -- the text's length
  unfold peek6 at ho
  by_cases c18 : i + 6 + k < (s.size : Int)
  rotate_left
  · rw [if_neg c18] at ho
    subst ho
    go_wp2_with (go_at_call 92; refine (number_torn R s (i + 6 + k) _ h14 (by omega) (by omega) (by omega)).mono ?_; rintro e w2 ⟨rfl, h2, hb2⟩)
    exact ⟨rfl, rfl, ⟨_, h2⟩, HB.trans hb2⟩
  rw [if_pos c18] at ho
  obtain ⟨tg, htg⟩ : ∃ tg, bt s (i + 6 + k) = tg := ⟨_, rfl⟩
  have htgr := bt_range s (i + 6 + k)
  rw [htg] at ho htgr
  go_upto_region 22 with (go_at_call 92; refine (number_ok R s (i + 6 + k) _ h14 (by omega) c18 (by omega)).mono ?_; rintro e w15 ⟨rfl, h15, hB15⟩; rw [htg])
  rw [show i + 6 + k + 1 = i + 7 + k by omega] at h15
  replace HB := HB.trans hB15
  replace hN := hN.past hB15 hRN
  replace hZ := hZ.past hB15 hRZ
  clear hB15 h14
  by_cases c19 : tg ≤ most / 256
  rotate_left
  · rw [if_neg c19] at ho
    subst ho
    have d22 : decide (tg ≤ most / 256) = false := decide_eq_false c19
    go_wp2_with (go_at_call 91; refine (must_no _).mono ?_; rintro e w20 ⟨rfl, rfl⟩)
    exact ⟨rfl, rfl, ⟨_, h15⟩, HB⟩
  rw [if_pos c19] at ho
  have d22 : decide (tg ≤ most / 256) = true := decide_eq_true c19
  go_upto_region 23 with (go_at_call 91; refine (must_ok _).mono ?_; rintro e w20 ⟨rfl, rfl⟩)
  clear d22
  by_cases c20 : i + 7 + k < (s.size : Int)
  rotate_left
  · rw [if_neg c20] at ho
    subst ho
    go_wp2_with (go_at_call 92; refine (number_torn R s (i + 7 + k) _ h15 (by omega) (by omega) (by omega)).mono ?_; rintro e w2 ⟨rfl, h2, hb2⟩)
    exact ⟨rfl, rfl, ⟨_, h2⟩, HB.trans hb2⟩
  rw [if_pos c20] at ho
  obtain ⟨tl, htl⟩ : ∃ tl, bt s (i + 7 + k) = tl := ⟨_, rfl⟩
  have htlr := bt_range s (i + 7 + k)
  rw [htl] at ho htlr
  have hor : Go.bits .or .i64 (tg * 256) tl = tg * 256 + tl := i64_or8 (by omega) (by omega) (by omega) htlr.1 (by omega)
  go_upto_region 24 with (go_at_call 92; refine (number_ok R s (i + 7 + k) _ h15 (by omega) c20 (by omega)).mono ?_; rintro e w16 ⟨rfl, h16, hB16⟩; rw [htl])
  rw [show i + 7 + k + 1 = i + 8 + k by omega] at h16
  replace HB := HB.trans hB16
  replace hN := hN.past hB16 hRN
  replace hZ := hZ.past hB16 hRZ
  clear hB16 h15 hor
  have htr : 0 ≤ tg * 256 + tl ∧ tg * 256 + tl ≤ 65535 := by omega
  generalize ht : tg * 256 + tl = t at ho htr ⊢
  have hn0 := hN.c0
  unfold peek7 at ho
  by_cases c21 : t ≤ most ∧ (kd = 6 → 0 < t)
  rotate_left
  · rw [if_neg c21] at ho
    subst ho
    by_cases ck : t ≤ most
    · have d23 : decide (t ≤ most) = true := decide_eq_true ck
      have d24 : (kd != 6) = false := by simp; omega
      have d25 : decide (0 < t) = false := decide_eq_false (by omega)
      clear ck
      go_wp2_with (go_at_call 91; refine (must_no _).mono ?_; rintro e w20 ⟨rfl, rfl⟩)
      exact ⟨rfl, rfl, ⟨_, h16⟩, HB⟩
    · have d23 : decide (t ≤ most) = false := decide_eq_false ck
      clear ck
      go_wp2_with (go_at_call 91; refine (must_no _).mono ?_; rintro e w20 ⟨rfl, rfl⟩)
      exact ⟨rfl, rfl, ⟨_, h16⟩, HB⟩
  rw [if_pos c21] at ho
  have d23 : decide (t ≤ most) = true := decide_eq_true c21.1
  go_cut [8, 9, 10, 11, 12, 13] (fun v8 v9 v10 v11 v12 v13 wc => v13 = .int .i64 t ∧ wc = w16)
  case first =>
    by_cases ck : kd = 6
    · have d24 : (kd != 6) = false := by simp [ck]
      have d25 : decide (0 < t) = true := decide_eq_true (c21.2 ck)
      clear ck
      go_wp2_with (go_at_call 91; refine (must_ok _).mono ?_; rintro e w20 ⟨rfl, rfl⟩)
      go_meet
      case rel => exact ⟨rfl, rfl⟩
    · have d24 : (kd != 6) = true := by simp [ck]
      clear ck
      go_wp2_with (go_at_call 91; refine (must_ok _).mono ?_; rintro e w20 ⟨rfl, rfl⟩)
      go_meet
      case rel => exact ⟨rfl, rfl⟩
  obtain ⟨rfl, rfl⟩ := hcut
  clear d23 hn0
  -- the text
  by_cases c22 : i + 8 + k + t ≤ (s.size : Int)
  rotate_left
  · rw [if_neg c22] at ho
    subst ho
    go_wp2_with (go_at_call 93; refine (bytes_torn R s (i + 8 + k) t _ h16 (by omega) (by omega) (by omega) (by omega) (by omega)).mono ?_; rintro e w2 ⟨rfl, h2, hb2⟩)
    exact ⟨rfl, rfl, ⟨_, h2⟩, HB.trans hb2⟩
  rw [if_pos c22] at ho
  obtain ⟨text, htext⟩ : ∃ text, s.extract (i + 8 + k).toNat (i + 8 + k + t).toNat = text := ⟨_, rfl⟩
  go_upto_region 26 with (go_at_call 93; refine (bytes_ok R s (i + 8 + k) t _ h16 (by omega) (by omega) c22 (by omega)).mono ?_; rintro e w17 ⟨rfl, h17, hB17⟩; rw [htext]; have hN17 := hN.past hB17 hRN; have hn4 := hN17.c4; have hz4 := hN17.z4)
  have h18 := h17.far (p := ⟨N, 4, none⟩) hRN (.string text)
  replace HB := (HB.trans hB17).new (p := ⟨N, 4, none⟩) hNw (.string text)
  replace hZ := (hZ.past hB17 hRZ).far (p := ⟨N, 4, none⟩) hNZ (.string text)
  replace hN := hN17.s4 text
  clear h17 hB17 hN17 hn4 hz4 h16
  generalize w17.setCell ⟨N, 4, none⟩ (.string text) = w18 at h18 HB hZ hN ⊢
  -- the sum
  have hq1 := fun p : Past w18 => Past.cell h18.str p
  have hq2 := fun p : Past w18 => Past.cell h18.pos p
  obtain ⟨body, hbody⟩ : ∃ b, s.extract i.toNat (i + 8 + k + t).toNat = b := ⟨_, rfl⟩
  have hsl : ∀ p : Past w18, (Instr.slice 9 (.string s) (some (.int .i64 i)) (some (.int .i64 (i + 8 + k + t))) none).run Try.prog p.W = .ok (.string body) p.W := fun p => by
    rw [run_slice_string_if _ _ _ _ _ _ _ Try.underlying9, if_pos ⟨by omega, c22⟩, if_pos ⟨hi, by omega⟩, hbody]
  have hbs : body.size ≤ 1000000 := by rw [← hbody, ByteArray.size_extract]; omega
  refine wp_region_past (by kernel_rfl) (by kernel_rfl) ?_
  repeat (go_big_quiet_step (first | (go_at_call 30; exact Calls.past_of (Sum_calls last body hbs _))))
  refine wpQuiet_nil ?_
  rintro _ ⟨p, rfl⟩
  have hb19 := p.h
  have h19 := h18.past hb19
  replace HB := HB.trans (But.of_below hb19)
  replace hZ := hZ.past (But.of_below (S := (· = R)) hb19) hRZ
  replace hN := hN.past (But.of_below (S := (· = R)) hb19) hRN
  clear hq1 hq2 hsl h18
  generalize p.W = w19 at h19 hb19 HB hZ hN ⊢
  clear hb19
  unfold peek8 at ho
  rw [hbody, hkey, htext] at ho
  generalize hsum : sumF last body = sum at ho ⊢
  have hcv := fun (W : World) (t : ByteArray) => Lib.run_convert_string_bytes (P := Try.prog) W 9 53 5 t Try.underlying9 Try.underlying53 Try.underlying5
  have he8 := eightS_size sum
  go_wp2_with (go_at_call 62; refine (eight_calls sum _).mono ?_; rintro e w20 ⟨rfl, hb20⟩; generalize eightS sum = e8 at ho he8 ⊢)
  have hcell : ∀ j : Nat, j < 8 → (Lib.bytesWorld w20 5 e8).cell? ⟨w20.heap.size, j, none⟩ = some (.int .u8 (bt e8 j)) := by
    intro j hj
    rw [Lib.bytesWorld_cell w20 5 _ j (by omega), bt_data _ j (by omega)]
  have hb21 : Below w20.heap.size w20 (Lib.bytesWorld w20 5 e8) := ⟨rfl, rfl, rfl, by rw [Lib.bytesWorld_size]; omega, fun k hk => Lib.bytesWorld_at_old w20 5 _ k hk⟩
  have h21 := (h19.past hb20).past hb21
  replace HB := (HB.trans (But.of_below hb20)).trans (But.of_below hb21)
  replace hZ := (hZ.past (But.of_below (S := (· = R)) hb20) hRZ).past (But.of_below (S := (· = R)) hb21) hRZ
  replace hN := (hN.past (But.of_below (S := (· = R)) hb20) hRN).past (But.of_below (S := (· = R)) hb21) hRN
  have hgR : ¬ w20.heap.size = R := by have := (h19.past hb20).lt; omega
  clear hb20 hb21 h19 hcv
  generalize w20.heap.size = g, Lib.bytesWorld w20 5 e8 = w21 at hcell h21 HB hZ hN hgR ⊢
  -- the sum's bytes
  clear hbody htext
  generalize hq : i + 8 + k + t = q at ho h21 c22
  have hq0 : 0 ≤ q := by omega
  go_loopg [16, 166] 9 (fun kq v16 v166 wk => ∃ j : Nat, v166 = .int .i64 (j : Int) ∧ j ≤ 8 ∧ kq = 8 - j + 1 ∧ Aside0 (tailOut s e8 ⟨kd, u, key, decide (hs = 1), text⟩ sum q (8 - j) = o) ∧ Aside0 (Rd R s (q + j) wk) ∧ Aside0 (But (· = R) w wk) ∧ Aside0 (Zt Z wk) ∧ Aside0 (Nt N kd u key H text wk) ∧ Aside0 (∀ j : Nat, j < 8 → wk.cell? ⟨g, j, none⟩ = some (.int .u8 (bt e8 j))))
  case atStart => exact ⟨0, rfl, by omega, rfl, ⟨ho⟩, ⟨by simpa using h21⟩, ⟨HB⟩, ⟨hZ⟩, ⟨hN⟩, ⟨hcell⟩⟩
  case round =>
    obtain ⟨j, rfl, hj, rfl, ⟨ho⟩, ⟨h21⟩, ⟨HB⟩, ⟨hZ⟩, ⟨hN⟩, ⟨hcell⟩⟩ := hrel
    by_cases hlt : j < 8
    · have hd : decide ((j : Int) < 8) = true := decide_eq_true (by omega)
      have hc := hcell j hlt
      have hb0 : ((j : Int) < 0) = False := eq_false (by omega)
      have hb8 : ((8 : Int) ≤ (j : Int)) = False := eq_false (by omega)
      rw [show 8 - j = (8 - (j + 1)) + 1 by omega, tailOut, show (8 - ((8 - (j + 1) + 1 : Nat) : Int)) = (j : Int) by omega] at ho
      by_cases c30 : (s.size : Int) ≤ q + j
      · rw [if_pos c30] at ho
        subst ho
        go_wp2_with (go_at_call 93; refine (bytes_torn R s (q + j) 1 _ h21 (by omega) (by omega) (by omega) (by omega) (by omega)).mono ?_; rintro e w2 ⟨rfl, h2, hb2⟩)
        exact ⟨rfl, rfl, ⟨_, h2⟩, HB.trans hb2⟩
      · rw [if_neg c30] at ho
        have ht1 := one_byte s (q + j) (by omega) (by omega)
        have hbt := bt_extract s (q + j).toNat (q + j + 1).toNat 0 (by omega) (by omega)
        obtain ⟨b1, hb1⟩ : ∃ b, s.extract (q + j).toNat (q + j + 1).toNat = b := ⟨_, rfl⟩
        rw [hb1] at ht1 hbt
        rw [show (((q + j).toNat + 0 : Nat) : Int) = q + j by omega] at hbt
        have q7 : (0 < b1.size) = True := eq_true (by omega)
        have qi7 : (0 < (b1.size : Int)) = True := eq_true (by omega)
        have hx7 : ∀ h : 0 < b1.size, ((b1[0]'h).toNat : Int) = bt b1 0 := bt_at b1 0
        by_cases c31 : bt s (q + j) = bt e8 j
        · rw [if_pos c31] at ho
          have d31 : (bt b1 0 == bt e8 (j : Int)) = true := beq_iff_eq.mpr (hbt.trans c31)
          clear hbt c31
          go_wp2_with (first | (go_at_call 93; refine (bytes_ok R s (q + j) 1 _ h21 (by omega) (by omega) (by omega) (by omega)).mono ?_; rintro e w22 ⟨rfl, h22, hB22⟩; rw [hb1]) | (go_at_call 91; refine (must_ok _).mono ?_; rintro e w20 ⟨rfl, rfl⟩))
          go_roundg (8 - (j + 1) + 1)
          case measure => omega
          case rel =>
            refine ⟨j + 1, by push_cast; rfl, by omega, rfl, ⟨ho⟩, ⟨?_⟩, ⟨HB.trans hB22⟩, ⟨hZ.past hB22 hRZ⟩, ⟨hN.past hB22 hRN⟩, ⟨fun j hj => (hB22.cell (p := ⟨g, j, none⟩) (cell_lt (hcell j hj)) hgR).trans (hcell j hj)⟩⟩
            push_cast
            rw [← Int.add_assoc]
            exact h22
        · rw [if_neg c31] at ho
          subst ho
          have d31 : (bt b1 0 == bt e8 (j : Int)) = false := beq_eq_false_iff_ne.mpr (fun e => c31 (hbt.symm.trans e))
          clear hbt c31
          go_wp2_with (first | (go_at_call 93; refine (bytes_ok R s (q + j) 1 _ h21 (by omega) (by omega) (by omega) (by omega)).mono ?_; rintro e w22 ⟨rfl, h22, hB22⟩; rw [hb1]) | (go_at_call 91; refine (must_no _).mono ?_; rintro e w20 ⟨rfl, rfl⟩))
          exact ⟨rfl, rfl, ⟨_, h22⟩, HB.trans hB22⟩
    · have hd : decide ((j : Int) < 8) = false := decide_eq_false (by omega)
      rw [show 8 - j = 0 by omega, tailOut] at ho
      subst ho
      have hz0 : wr.cell? ⟨Z, 0, none⟩ = some (.int .i64 0) := (blk_cell hZ.blk 0).trans rfl
      have hz1 : wr.cell? ⟨Z, 1, none⟩ = some (.int .i64 0) := (blk_cell hZ.blk 1).trans rfl
      have hz2 : wr.cell? ⟨Z, 2, none⟩ = some (.string ⟨#[]⟩) := (blk_cell hZ.blk 2).trans rfl
      have hz3 : wr.cell? ⟨Z, 3, none⟩ = some (.bool false) := (blk_cell hZ.blk 3).trans rfl
      have hz4 : wr.cell? ⟨Z, 4, none⟩ = some (.string ⟨#[]⟩) := (blk_cell hZ.blk 4).trans rfl
      have hf0 := blk_frozen hZ.blk 0
      have hf1 := blk_frozen hZ.blk 1
      have hf2 := blk_frozen hZ.blk 2
      have hf3 := blk_frozen hZ.blk 3
      have hf4 := blk_frozen hZ.blk 4
      have hn0 := hN.c0
      have hn1 := hN.c1
      have hn2 := hN.c2
      have hn3 := hN.c3
      have hn4 := hN.c4
      go_wp2
      have hfin : (((((wr.setCell ⟨Z, 0, none⟩ (.int .i64 kd)).setCell ⟨Z, 1, none⟩ (.int .i64 u)).setCell ⟨Z, 2, none⟩ (.string key)).setCell ⟨Z, 3, none⟩ (.bool H)).setCell ⟨Z, 4, none⟩ (.string text)).heap[Z]? = some (.cells #[.int .i64 kd, .int .i64 u, .string key, .bool H, .string text] 39 (0, 0)) := by
        refine blk_put (cs := #[.int .i64 kd, .int .i64 u, .string key, .bool H, .string ⟨#[]⟩]) ?_ 4 _ rfl
        refine blk_put (cs := #[.int .i64 kd, .int .i64 u, .string key, .bool false, .string ⟨#[]⟩]) ?_ 3 _ rfl
        refine blk_put (cs := #[.int .i64 kd, .int .i64 u, .string ⟨#[]⟩, .bool false, .string ⟨#[]⟩]) ?_ 2 _ rfl
        refine blk_put (cs := #[.int .i64 kd, .int .i64 0, .string ⟨#[]⟩, .bool false, .string ⟨#[]⟩]) ?_ 1 _ rfl
        refine blk_put (cs := #[.int .i64 0, .int .i64 0, .string ⟨#[]⟩, .bool false, .string ⟨#[]⟩]) ?_ 0 _ rfl
        exact hZ.blk
      have hZw : w.heap.size ≤ Z := Nat.le_of_eq hz
      have hHd : H = decide (hs = 1) := by rw [← hH.out]; rfl
      rw [show q + (j : Int) = q + 8 by omega] at h21
      refine bodyPost_ret (results_list (rs := [.cell 4 39, .tmp 5]) rfl (by simp) (.cell Z 39 #[.int .i64 kd, .int .i64 u, .string key, .bool H, .string text] (0, 0) _ rfl hfin Try.underlying39 rfl (by kernel_rfl) (.tmp .nil))) rfl ?_
      refine ⟨by rw [← hHd]; rfl, ?_, ?_⟩
      · exact ((((h21.far (p := ⟨Z, 0, none⟩) hRZ _).far (p := ⟨Z, 1, none⟩) hRZ _).far (p := ⟨Z, 2, none⟩) hRZ _).far (p := ⟨Z, 3, none⟩) hRZ _).far (p := ⟨Z, 4, none⟩) hRZ _
      · exact ((((HB.new (p := ⟨Z, 0, none⟩) hZw _).new (p := ⟨Z, 1, none⟩) hZw _).new (p := ⟨Z, 2, none⟩) hZw _).new (p := ⟨Z, 3, none⟩) hZw _).new (p := ⟨Z, 4, none⟩) hZw _
end Go.Proofs.Yteblpjnkinghoaa.J
/- The program's next: a note, or how the reading ended. -/
set_option linter.unusedVariables false
set_option linter.unusedSimpArgs false
namespace Go.Proofs.Yteblpjnkinghoaa.J
open Go.RowKit Go.Proofs.YteblpjnkinghoaaW.PrintWords Go.Proofs.YteblpjnkinghoaaW.PrintLast Go.Proofs.YteblpjnkinghoaaW.PrintMore
/-- How a reading ended: a state in block E. -/
structure St (E : Nat) (used sum : Int) (torn : Bool) (e : Int) (w : World) : Prop where
  c0 : w.cell? ⟨E, 0, none⟩ = some (.int .i64 used)
  c1 : w.cell? ⟨E, 1, none⟩ = some (.int .u64 sum)
  c2 : w.cell? ⟨E, 2, none⟩ = some (.bool torn)
  c3 : w.cell? ⟨E, 3, none⟩ = some (.int .i64 e)
  z0 : w.frozen? ⟨E, 0, none⟩ = false
  z1 : w.frozen? ⟨E, 1, none⟩ = false
  z2 : w.frozen? ⟨E, 2, none⟩ = false
  z3 : w.frozen? ⟨E, 3, none⟩ = false
theorem as_torn (w : World) : (Instr.typeAssert (.iface 119 (.agg #[])) 20 119 true).run Try.prog w = .ok (.tuple #[.agg #[], .bool true]) w := by
  simp [Instr.typeAssert, run_underlying Try.underlying119]
theorem as_wrong (w : World) : (Instr.typeAssert (.iface 120 (.agg #[])) 20 120 true).run Try.prog w = .ok (.tuple #[.agg #[], .bool true]) w := by
  simp [Instr.typeAssert, run_underlying Try.underlying120]
theorem as_no (w : World) : (Instr.typeAssert (.iface 120 (.agg #[])) 20 119 true).run Try.prog w = .ok (.tuple #[.agg #[], .bool false]) w := by
  simp [Instr.typeAssert, run_underlying Try.underlying119]
theorem as_nil119 (w : World) : (Instr.typeAssert .nilIface 20 119 true).run Try.prog w = .ok (.tuple #[.agg #[], .bool false]) w := by
  simp [Instr.typeAssert, run_underlying Try.underlying119]
theorem as_nil120 (w : World) : (Instr.typeAssert .nilIface 20 120 true).run Try.prog w = .ok (.tuple #[.agg #[], .bool false]) w := by
  simp [Instr.typeAssert, run_underlying Try.underlying120]
set_option maxRecDepth 100000 in
theorem catch_torn (B E : Nat) (older : List PanicEntry) (w : World) (hB : w.cell? ⟨B, 0, none⟩ = some (.pointer (some ⟨E, 0, none⟩))) {x : Bool} (h2 : w.cell? ⟨E, 2, none⟩ = some (.bool x)) (hz : w.frozen? ⟨E, 2, none⟩ = false) :
    CallsD Try.prog 86 #[.pointer (some ⟨B, 0, none⟩)] (.panicking ({ v := .iface 119 (.agg #[]), recovered := false } :: older)) w fun e u' w' =>
      e = .returned (.tuple #[]) ∧ u' = .panicking ({ v := .iface 119 (.agg #[]), recovered := true } :: older) ∧ w' = w.setCell ⟨E, 2, none⟩ (.bool true) := by
  refine callsD_of_wpS Try.func86 rfl fun c₀ cs hu => ?_
  apply wpS_seq
  apply wpS_region
  simp [wpOpsS, go_sem, recoverD, hu, Try.ntmps86, Exit.thenS]
  have ha1 := fun w => as_torn w
  have ha2 := fun w => as_wrong w
  have ha3 := fun w => as_no w
  have ha4 := fun w => as_nil119 w
  have ha5 := fun w => as_nil120 w
  refine wpS_of_wp ?_
  simp only [Array.replicate, List.replicate, Array.setIfInBounds]
  go_wp2
  simp [bodyPostS, results, Try.results86]
set_option maxRecDepth 100000 in
theorem catch_wrong (B E : Nat) (older : List PanicEntry) (w : World) (hB : w.cell? ⟨B, 0, none⟩ = some (.pointer (some ⟨E, 0, none⟩))) {x : Int} (h2 : w.cell? ⟨E, 3, none⟩ = some (.int .i64 x)) (hz : w.frozen? ⟨E, 3, none⟩ = false) :
    CallsD Try.prog 86 #[.pointer (some ⟨B, 0, none⟩)] (.panicking ({ v := .iface 120 (.agg #[]), recovered := false } :: older)) w fun e u' w' =>
      e = .returned (.tuple #[]) ∧ u' = .panicking ({ v := .iface 120 (.agg #[]), recovered := true } :: older) ∧ w' = w.setCell ⟨E, 3, none⟩ (.int .i64 12) := by
  refine callsD_of_wpS Try.func86 rfl fun c₀ cs hu => ?_
  apply wpS_seq
  apply wpS_region
  simp [wpOpsS, go_sem, recoverD, hu, Try.ntmps86, Exit.thenS]
  have ha1 := fun w => as_torn w
  have ha2 := fun w => as_wrong w
  have ha3 := fun w => as_no w
  have ha4 := fun w => as_nil119 w
  have ha5 := fun w => as_nil120 w
  refine wpS_of_wp ?_
  simp only [Array.replicate, List.replicate, Array.setIfInBounds]
  go_wp2
  simp [bodyPostS, results, Try.results86]
set_option maxRecDepth 100000 in
theorem catch_idle (B E : Nat) (w : World) :
    CallsD Try.prog 86 #[.pointer (some ⟨B, 0, none⟩)] .returning w fun e u' w' =>
      e = .returned (.tuple #[]) ∧ u' = .returning ∧ w' = w := by
  refine callsD_of_wpS Try.func86 rfl fun c₀ cs hu => ?_
  apply wpS_seq
  apply wpS_region
  simp [wpOpsS, go_sem, recoverD, hu, Try.ntmps86, Exit.thenS]
  have ha1 := fun w => as_torn w
  have ha2 := fun w => as_wrong w
  have ha3 := fun w => as_no w
  have ha4 := fun w => as_nil119 w
  have ha5 := fun w => as_nil120 w
  refine wpS_of_wp ?_
  simp only [Array.replicate, List.replicate, Array.setIfInBounds]
  go_wp2
  cases c₀
  simp_all [bodyPostS, results, Try.results86]
theorem St.past {E : Nat} {used sum : Int} {t : Bool} {e : Int} {S : Nat → Prop} {w w' : World} (h : St E used sum t e w) (hb : But S w w') (hn : ¬ S E) : St E used sum t e w' :=
  have hl : E < w.heap.size := cell_lt h.c0
  ⟨(hb.cell (p := ⟨E, 0, none⟩) hl hn).trans h.c0, (hb.cell (p := ⟨E, 1, none⟩) hl hn).trans h.c1, (hb.cell (p := ⟨E, 2, none⟩) hl hn).trans h.c2, (hb.cell (p := ⟨E, 3, none⟩) hl hn).trans h.c3,
   (hb.frozen (p := ⟨E, 0, none⟩) hl hn).trans h.z0, (hb.frozen (p := ⟨E, 1, none⟩) hl hn).trans h.z1, (hb.frozen (p := ⟨E, 2, none⟩) hl hn).trans h.z2, (hb.frozen (p := ⟨E, 3, none⟩) hl hn).trans h.z3⟩
/-- What next finds when it comes to its statement: the variable that holds E in block B, the result in block Z. -/
structure At (R E B Z : Nat) (s : ByteArray) (i used sum : Int) (w : World) : Prop where
  rd : Rd R s i w
  st : St E used sum false 0 w
  bk : w.heap[B]? = some (.cells #[.pointer (some ⟨E, 0, none⟩)] 83 (0, 0))
  zt : w.heap[Z]? = some nil39
theorem next_start (R E : Nat) (s : ByteArray) (i used sum : Int) (w : World) (h : Rd R s i w) (hE : St E used sum false 0 w) :
    At R E w.heap.size (w.heap.size + 1) s i used sum ((w.alloc (.cells #[.pointer (some ⟨E, 0, none⟩)] 83)).alloc nil39) ∧ Below w.heap.size w ((w.alloc (.cells #[.pointer (some ⟨E, 0, none⟩)] 83)).alloc nil39) := by
  have hb : Below w.heap.size w ((w.alloc (.cells #[.pointer (some ⟨E, 0, none⟩)] 83)).alloc nil39) := ((Below.refl _ _).alloc (Nat.le_refl _) _).alloc (by simp) _
  refine ⟨⟨h.past hb, hE.past (But.of_below (S := fun _ => False) hb) (fun h => h), ?_, ?_⟩, hb⟩
  · exact (Below.heap_alloc _ _ _ (by simp)).trans (heap_alloc_new _ _)
  · have := heap_alloc_new (w.alloc (.cells #[.pointer (some ⟨E, 0, none⟩)] 83)) nil39
    rw [World.size_alloc] at this
    exact this
abbrev nilV : Value := .agg #[.int .i64 0, .int .i64 0, .string ⟨#[]⟩, .bool false, .string ⟨#[]⟩]
/-- The door of next where its body has died: the deferred closure marks the state, and next hands back nothing. -/
theorem next_leaf (T : Array Value) (R E B Z : Nat) (t : TypeId) (w w2 : World) (Rr : Ending → World → Prop) (w3 : World)
    (h4 : T.getD 4 undef = .pointer (some ⟨Z, 0, none⟩)) (h5 : T.getD 5 undef = .bool false) (hz : w3.heap[Z]? = some nil39)
    (hc : CallsD Try.prog 86 #[.pointer (some ⟨B, 0, none⟩)] (.panicking [{ v := .iface t (.agg #[]), recovered := false }]) w2 fun e u' w' => e = .returned (.tuple #[]) ∧ u' = .panicking [{ v := .iface t (.agg #[]), recovered := true }] ∧ w' = w3)
    (hr : Rr (.returned (.tuple #[nilV, .bool false])) w3) :
    Leaves Try.prog Try.f73 T Rr [{ target := .fn (.func 86) #[.pointer (some ⟨B, 0, none⟩)], args := #[] }] (.panicking [{ v := .iface t (.agg #[]), recovered := false }]) w2 := by
  refine leaves_cons (f := 86) (args := #[.pointer (some ⟨B, 0, none⟩)]) (by simp) (by simp [go_sem]) ?_
  refine hc.mono ?_
  rintro e u' w3' ⟨rfl, rfl, rfl⟩
  have hres := results_list (P := Try.prog) (fn := Try.f73) (tmps := T) (w := w3') (rs := [.cell 4 39, .tmp 5]) rfl (by simp) (.cell Z 39 #[.int .i64 0, .int .i64 0, .string ⟨#[]⟩, .bool false, .string ⟨#[]⟩] (0, 0) _ h4 hz Try.underlying39 rfl (by kernel_rfl) (.tmp .nil))
  rw [h5] at hres
  simp [Leaves, settle]
  exact ⟨_, hres, hr⟩
theorem St.set2 {E : Nat} {used sum : Int} {t : Bool} {e : Int} {w : World} (h : St E used sum t e w) (x : Bool) : St E used sum x e (w.setCell ⟨E, 2, none⟩ (.bool x)) :=
  ⟨(World.cell?_setCell_other _ _ _ _ (by simp)).trans h.c0, (World.cell?_setCell_other _ _ _ _ (by simp)).trans h.c1, World.cell?_setCell_same _ _ _ h.c2, (World.cell?_setCell_other _ _ _ _ (by simp)).trans h.c3,
   (World.frozen?_setCell _ _ _ _).trans h.z0, (World.frozen?_setCell _ _ _ _).trans h.z1, (World.frozen?_setCell _ _ _ _).trans h.z2, (World.frozen?_setCell _ _ _ _).trans h.z3⟩
theorem St.set3 {E : Nat} {used sum : Int} {t : Bool} {e : Int} {w : World} (h : St E used sum t e w) (x : Int) : St E used sum t x (w.setCell ⟨E, 3, none⟩ (.int .i64 x)) :=
  ⟨(World.cell?_setCell_other _ _ _ _ (by simp)).trans h.c0, (World.cell?_setCell_other _ _ _ _ (by simp)).trans h.c1, (World.cell?_setCell_other _ _ _ _ (by simp)).trans h.c2, World.cell?_setCell_same _ _ _ h.c3,
   (World.frozen?_setCell _ _ _ _).trans h.z0, (World.frozen?_setCell _ _ _ _).trans h.z1, (World.frozen?_setCell _ _ _ _).trans h.z2, (World.frozen?_setCell _ _ _ _).trans h.z3⟩
set_option maxHeartbeats 8000000 in
set_option maxRecDepth 100000 in
/-- next where note dies. -/
theorem next_dead (R E : Nat) (s : ByteArray) (i : Int) (used sum : Int) (w : World) (h : Rd R s i w) (hE : St E used sum false 0 w) (t : TypeId) (Rr : Ending → World → Prop)
    (hn : ∀ w', Rd R s i w' → Calls Try.prog 87 #[.pointer (some ⟨R, 0, none⟩), .int .u64 sum] w' fun e w'' => e = Dead t ∧ (∃ p, Rd R s p w'') ∧ But (· = R) w' w'')
    (hl : ∀ (B Z : Nat) (w1 w2 : World) (T : Array Value), ¬ B = R → ¬ B = E → ¬ Z = R → ¬ Z = E → w.heap.size ≤ B → w.heap.size ≤ Z → Below w.heap.size w w1 → At R E B Z s i used sum w1 → T.getD 4 undef = .pointer (some ⟨Z, 0, none⟩) → T.getD 5 undef = .bool false → But (· = R) w1 w2 →
      Leaves Try.prog Try.f73 T Rr [{ target := .fn (.func 86) #[.pointer (some ⟨B, 0, none⟩)], args := #[] }] (.panicking [{ v := .iface t (.agg #[]), recovered := false }]) w2) :
    Calls Try.prog 73 #[.pointer (some ⟨R, 0, none⟩), .pointer (some ⟨E, 0, none⟩)] w Rr := by
  have hmf : ∀ (fn : Fn) (first cap : Array Value) (w : World), (Instr.makeFunc fn first cap).run Try.prog w = .ok (.func fn first cap) w := fun _ _ _ _ => rfl
  obtain ⟨h1, hb1⟩ := next_start R E s i used sum w h hE
  go_enter_defers Try.func73, Try.ntmps73
  go_upto_region 2 with (fail)
  have hBR : ¬ w.heap.size = R := by have := h.lt; omega
  have hBE : ¬ w.heap.size = E := by have := cell_lt hE.c0; simp at this; omega
  have hZR : ¬ w.heap.size + 1 = R := by have := h.lt; omega
  have hZE : ¬ w.heap.size + 1 = E := by have := cell_lt hE.c0; simp at this; omega
  have hBw : w.heap.size ≤ w.heap.size := Nat.le_refl _
  have hZw : w.heap.size ≤ w.heap.size + 1 := by omega
  have hl1 := fun w2 T => hl w.heap.size (w.heap.size + 1) _ w2 T hBR hBE hZR hZE hBw hZw hb1 h1
  generalize w.heap.size = B, w.heap.size + 1 = Z, (w.alloc (.cells #[.pointer (some ⟨E, 0, none⟩)] 83)).alloc nil39 = w1 at h1 hl1 ⊢
  have hc3 : w1.drew.cell? ⟨B, 0, none⟩ = some (.pointer (some ⟨E, 0, none⟩)) := (blk_cell h1.bk 0).trans rfl
  have hc1 : w1.drew.cell? ⟨E, 1, none⟩ = some (.int .u64 sum) := h1.st.c1
  have hd1 : Rd R s i w1.drew := h1.rd.past (below_drew (Below.refl _ _))
  have hleaf : ∀ (T : Array Value) (w2 : World), T.getD 4 undef = .pointer (some ⟨Z, 0, none⟩) → T.getD 5 undef = .bool false → (∃ p, Rd R s p w2) → But (· = R) w1.drew w2 →
      Leaves Try.prog Try.f73 T Rr [{ target := .fn (.func 86) #[.pointer (some ⟨B, 0, none⟩)], args := #[] }] (.panicking [{ v := .iface t (.agg #[]), recovered := false }]) w2 :=
    fun T w2 e4 e5 _ hb2 => hl1 w2 T e4 e5 ((But.refl _ _).drew.trans hb2)
  clear hl hl1 h1 hmf hb1
  refine wp_region_any (by kernel_rfl) ?_
  change wpAny _ _ _ _ _ _ _ (World.drew _)
  refine wpAny_ready (rs := [0, 1, 2]) (by kernel_rfl) (by simp) ?_
  refine AllReady.cons rfl (fun K hK => ?_) ?_
  · go_simp
    refine hK _ _ ?_
    clear hK K
    refine wpAny_ready (rs := [1, 2]) (by kernel_rfl) (by simp) ?_
    refine AllReady.cons rfl (fun K hK => ?_) ?_
    · go_simp
      refine hK _ _ ?_
      clear hK K
      refine wpAny_ready (rs := [2]) (by kernel_rfl) (by simp) ?_
      refine AllReady.cons rfl (fun K hK => ?_) ?_
      · go_simp
        refine hK _ _ ?_
        clear hK K
        refine wpAny_ready (rs := [3]) (by kernel_rfl) (by simp) ?_
        refine AllReady.cons rfl (fun K hK => ?_) ?_
        · go_simp
          refine hK _ _ ?_
          clear hK K
          refine wpAny_ready (rs := [4]) (by kernel_rfl) (by simp) ?_
          refine AllReady.cons rfl (fun K hK => ?_) ?_
          · go_simp
            refine hK _ _ ?_
            clear hK K
            refine wpAny_ready (rs := [5]) (by kernel_rfl) (by simp) ?_
            refine AllReady.cons rfl (fun K hK => ?_) ?_
            · go_simp
              refine hK _ _ ?_
              clear hK K
              refine wpAny_ready (rs := [6]) (by kernel_rfl) (by simp) ?_
              refine AllReady.cons rfl (fun K hK => ?_) ?_
              · go_simp
                exact (hn _ hd1).mono fun e w2 h => by obtain ⟨rfl, h2, hb2⟩ := h; exact hleaf _ _ rfl rfl h2 hb2
              exact AllReady.nil
            exact AllReady.nil
          exact AllReady.nil
        exact AllReady.nil
      exact AllReady.nil
    refine AllReady.cons rfl (fun K hK => ?_) ?_
    · go_simp
      refine hK _ _ ?_
      clear hK K
      refine wpAny_ready (rs := [1, 3]) (by kernel_rfl) (by simp) ?_
      refine AllReady.cons rfl (fun K hK => ?_) ?_
      · go_simp
        refine hK _ _ ?_
        clear hK K
        refine wpAny_ready (rs := [3]) (by kernel_rfl) (by simp) ?_
        refine AllReady.cons rfl (fun K hK => ?_) ?_
        · go_simp
          refine hK _ _ ?_
          clear hK K
          refine wpAny_ready (rs := [4]) (by kernel_rfl) (by simp) ?_
          refine AllReady.cons rfl (fun K hK => ?_) ?_
          · go_simp
            refine hK _ _ ?_
            clear hK K
            refine wpAny_ready (rs := [5]) (by kernel_rfl) (by simp) ?_
            refine AllReady.cons rfl (fun K hK => ?_) ?_
            · go_simp
              refine hK _ _ ?_
              clear hK K
              refine wpAny_ready (rs := [6]) (by kernel_rfl) (by simp) ?_
              refine AllReady.cons rfl (fun K hK => ?_) ?_
              · go_simp
                exact (hn _ hd1).mono fun e w2 h => by obtain ⟨rfl, h2, hb2⟩ := h; exact hleaf _ _ rfl rfl h2 hb2
              exact AllReady.nil
            exact AllReady.nil
          exact AllReady.nil
        exact AllReady.nil
      refine AllReady.cons rfl (fun K hK => ?_) ?_
      · go_simp
        refine hK _ _ ?_
        clear hK K
        refine wpAny_ready (rs := [1, 4]) (by kernel_rfl) (by simp) ?_
        refine AllReady.cons rfl (fun K hK => ?_) ?_
        · go_simp
          refine hK _ _ ?_
          clear hK K
          refine wpAny_ready (rs := [4]) (by kernel_rfl) (by simp) ?_
          refine AllReady.cons rfl (fun K hK => ?_) ?_
          · go_simp
            refine hK _ _ ?_
            clear hK K
            refine wpAny_ready (rs := [5]) (by kernel_rfl) (by simp) ?_
            refine AllReady.cons rfl (fun K hK => ?_) ?_
            · go_simp
              refine hK _ _ ?_
              clear hK K
              refine wpAny_ready (rs := [6]) (by kernel_rfl) (by simp) ?_
              refine AllReady.cons rfl (fun K hK => ?_) ?_
              · go_simp
                exact (hn _ hd1).mono fun e w2 h => by obtain ⟨rfl, h2, hb2⟩ := h; exact hleaf _ _ rfl rfl h2 hb2
              exact AllReady.nil
            exact AllReady.nil
          exact AllReady.nil
        refine AllReady.cons rfl (fun K hK => ?_) ?_
        · go_simp
          refine hK _ _ ?_
          clear hK K
          refine wpAny_ready (rs := [1, 5]) (by kernel_rfl) (by simp) ?_
          refine AllReady.cons rfl (fun K hK => ?_) ?_
          · go_simp
            refine hK _ _ ?_
            clear hK K
            refine wpAny_ready (rs := [5]) (by kernel_rfl) (by simp) ?_
            refine AllReady.cons rfl (fun K hK => ?_) ?_
            · go_simp
              refine hK _ _ ?_
              clear hK K
              refine wpAny_ready (rs := [6]) (by kernel_rfl) (by simp) ?_
              refine AllReady.cons rfl (fun K hK => ?_) ?_
              · go_simp
                exact (hn _ hd1).mono fun e w2 h => by obtain ⟨rfl, h2, hb2⟩ := h; exact hleaf _ _ rfl rfl h2 hb2
              exact AllReady.nil
            exact AllReady.nil
          refine AllReady.cons rfl (fun K hK => ?_) ?_
          · go_simp
            refine hK _ _ ?_
            clear hK K
            refine wpAny_ready (rs := [1]) (by kernel_rfl) (by simp) ?_
            refine AllReady.cons rfl (fun K hK => ?_) ?_
            · go_simp
              refine hK _ _ ?_
              clear hK K
              refine wpAny_ready (rs := [6]) (by kernel_rfl) (by simp) ?_
              refine AllReady.cons rfl (fun K hK => ?_) ?_
              · go_simp
                exact (hn _ hd1).mono fun e w2 h => by obtain ⟨rfl, h2, hb2⟩ := h; exact hleaf _ _ rfl rfl h2 hb2
              exact AllReady.nil
            exact AllReady.nil
          exact AllReady.nil
        exact AllReady.nil
      exact AllReady.nil
    exact AllReady.nil
  refine AllReady.cons rfl (fun K hK => ?_) ?_
  · go_simp
    refine hK _ _ ?_
    clear hK K
    refine wpAny_ready (rs := [0, 2]) (by kernel_rfl) (by simp) ?_
    refine AllReady.cons rfl (fun K hK => ?_) ?_
    · go_simp
      refine hK _ _ ?_
      clear hK K
      refine wpAny_ready (rs := [2]) (by kernel_rfl) (by simp) ?_
      refine AllReady.cons rfl (fun K hK => ?_) ?_
      · go_simp
        refine hK _ _ ?_
        clear hK K
        refine wpAny_ready (rs := [3]) (by kernel_rfl) (by simp) ?_
        refine AllReady.cons rfl (fun K hK => ?_) ?_
        · go_simp
          refine hK _ _ ?_
          clear hK K
          refine wpAny_ready (rs := [4]) (by kernel_rfl) (by simp) ?_
          refine AllReady.cons rfl (fun K hK => ?_) ?_
          · go_simp
            refine hK _ _ ?_
            clear hK K
            refine wpAny_ready (rs := [5]) (by kernel_rfl) (by simp) ?_
            refine AllReady.cons rfl (fun K hK => ?_) ?_
            · go_simp
              refine hK _ _ ?_
              clear hK K
              refine wpAny_ready (rs := [6]) (by kernel_rfl) (by simp) ?_
              refine AllReady.cons rfl (fun K hK => ?_) ?_
              · go_simp
                exact (hn _ hd1).mono fun e w2 h => by obtain ⟨rfl, h2, hb2⟩ := h; exact hleaf _ _ rfl rfl h2 hb2
              exact AllReady.nil
            exact AllReady.nil
          exact AllReady.nil
        exact AllReady.nil
      exact AllReady.nil
    refine AllReady.cons rfl (fun K hK => ?_) ?_
    · go_simp
      refine hK _ _ ?_
      clear hK K
      refine wpAny_ready (rs := [0, 3]) (by kernel_rfl) (by simp) ?_
      refine AllReady.cons rfl (fun K hK => ?_) ?_
      · go_simp
        refine hK _ _ ?_
        clear hK K
        refine wpAny_ready (rs := [3]) (by kernel_rfl) (by simp) ?_
        refine AllReady.cons rfl (fun K hK => ?_) ?_
        · go_simp
          refine hK _ _ ?_
          clear hK K
          refine wpAny_ready (rs := [4]) (by kernel_rfl) (by simp) ?_
          refine AllReady.cons rfl (fun K hK => ?_) ?_
          · go_simp
            refine hK _ _ ?_
            clear hK K
            refine wpAny_ready (rs := [5]) (by kernel_rfl) (by simp) ?_
            refine AllReady.cons rfl (fun K hK => ?_) ?_
            · go_simp
              refine hK _ _ ?_
              clear hK K
              refine wpAny_ready (rs := [6]) (by kernel_rfl) (by simp) ?_
              refine AllReady.cons rfl (fun K hK => ?_) ?_
              · go_simp
                exact (hn _ hd1).mono fun e w2 h => by obtain ⟨rfl, h2, hb2⟩ := h; exact hleaf _ _ rfl rfl h2 hb2
              exact AllReady.nil
            exact AllReady.nil
          exact AllReady.nil
        exact AllReady.nil
      refine AllReady.cons rfl (fun K hK => ?_) ?_
      · go_simp
        refine hK _ _ ?_
        clear hK K
        refine wpAny_ready (rs := [0, 4]) (by kernel_rfl) (by simp) ?_
        refine AllReady.cons rfl (fun K hK => ?_) ?_
        · go_simp
          refine hK _ _ ?_
          clear hK K
          refine wpAny_ready (rs := [4]) (by kernel_rfl) (by simp) ?_
          refine AllReady.cons rfl (fun K hK => ?_) ?_
          · go_simp
            refine hK _ _ ?_
            clear hK K
            refine wpAny_ready (rs := [5]) (by kernel_rfl) (by simp) ?_
            refine AllReady.cons rfl (fun K hK => ?_) ?_
            · go_simp
              refine hK _ _ ?_
              clear hK K
              refine wpAny_ready (rs := [6]) (by kernel_rfl) (by simp) ?_
              refine AllReady.cons rfl (fun K hK => ?_) ?_
              · go_simp
                exact (hn _ hd1).mono fun e w2 h => by obtain ⟨rfl, h2, hb2⟩ := h; exact hleaf _ _ rfl rfl h2 hb2
              exact AllReady.nil
            exact AllReady.nil
          exact AllReady.nil
        refine AllReady.cons rfl (fun K hK => ?_) ?_
        · go_simp
          refine hK _ _ ?_
          clear hK K
          refine wpAny_ready (rs := [0, 5]) (by kernel_rfl) (by simp) ?_
          refine AllReady.cons rfl (fun K hK => ?_) ?_
          · go_simp
            refine hK _ _ ?_
            clear hK K
            refine wpAny_ready (rs := [5]) (by kernel_rfl) (by simp) ?_
            refine AllReady.cons rfl (fun K hK => ?_) ?_
            · go_simp
              refine hK _ _ ?_
              clear hK K
              refine wpAny_ready (rs := [6]) (by kernel_rfl) (by simp) ?_
              refine AllReady.cons rfl (fun K hK => ?_) ?_
              · go_simp
                exact (hn _ hd1).mono fun e w2 h => by obtain ⟨rfl, h2, hb2⟩ := h; exact hleaf _ _ rfl rfl h2 hb2
              exact AllReady.nil
            exact AllReady.nil
          refine AllReady.cons rfl (fun K hK => ?_) ?_
          · go_simp
            refine hK _ _ ?_
            clear hK K
            refine wpAny_ready (rs := [0, 6]) (by kernel_rfl) (by simp) ?_
            refine AllReady.cons rfl (fun K hK => ?_) ?_
            · go_simp
              refine hK _ _ ?_
              clear hK K
              refine wpAny_ready (rs := [6]) (by kernel_rfl) (by simp) ?_
              refine AllReady.cons rfl (fun K hK => ?_) ?_
              · go_simp
                exact (hn _ hd1).mono fun e w2 h => by obtain ⟨rfl, h2, hb2⟩ := h; exact hleaf _ _ rfl rfl h2 hb2
              exact AllReady.nil
            refine AllReady.cons rfl (fun K hK => ?_) ?_
            · go_simp
              exact (hn _ hd1).mono fun e w2 h => by obtain ⟨rfl, h2, hb2⟩ := h; exact hleaf _ _ rfl rfl h2 hb2
            exact AllReady.nil
          exact AllReady.nil
        exact AllReady.nil
      exact AllReady.nil
    exact AllReady.nil
  refine AllReady.cons rfl (fun K hK => ?_) ?_
  · go_simp
    refine hK _ _ ?_
    clear hK K
    refine wpAny_ready (rs := [0, 1, 3]) (by kernel_rfl) (by simp) ?_
    refine AllReady.cons rfl (fun K hK => ?_) ?_
    · go_simp
      refine hK _ _ ?_
      clear hK K
      refine wpAny_ready (rs := [1, 3]) (by kernel_rfl) (by simp) ?_
      refine AllReady.cons rfl (fun K hK => ?_) ?_
      · go_simp
        refine hK _ _ ?_
        clear hK K
        refine wpAny_ready (rs := [3]) (by kernel_rfl) (by simp) ?_
        refine AllReady.cons rfl (fun K hK => ?_) ?_
        · go_simp
          refine hK _ _ ?_
          clear hK K
          refine wpAny_ready (rs := [4]) (by kernel_rfl) (by simp) ?_
          refine AllReady.cons rfl (fun K hK => ?_) ?_
          · go_simp
            refine hK _ _ ?_
            clear hK K
            refine wpAny_ready (rs := [5]) (by kernel_rfl) (by simp) ?_
            refine AllReady.cons rfl (fun K hK => ?_) ?_
            · go_simp
              refine hK _ _ ?_
              clear hK K
              refine wpAny_ready (rs := [6]) (by kernel_rfl) (by simp) ?_
              refine AllReady.cons rfl (fun K hK => ?_) ?_
              · go_simp
                exact (hn _ hd1).mono fun e w2 h => by obtain ⟨rfl, h2, hb2⟩ := h; exact hleaf _ _ rfl rfl h2 hb2
              exact AllReady.nil
            exact AllReady.nil
          exact AllReady.nil
        exact AllReady.nil
      refine AllReady.cons rfl (fun K hK => ?_) ?_
      · go_simp
        refine hK _ _ ?_
        clear hK K
        refine wpAny_ready (rs := [1, 4]) (by kernel_rfl) (by simp) ?_
        refine AllReady.cons rfl (fun K hK => ?_) ?_
        · go_simp
          refine hK _ _ ?_
          clear hK K
          refine wpAny_ready (rs := [4]) (by kernel_rfl) (by simp) ?_
          refine AllReady.cons rfl (fun K hK => ?_) ?_
          · go_simp
            refine hK _ _ ?_
            clear hK K
            refine wpAny_ready (rs := [5]) (by kernel_rfl) (by simp) ?_
            refine AllReady.cons rfl (fun K hK => ?_) ?_
            · go_simp
              refine hK _ _ ?_
              clear hK K
              refine wpAny_ready (rs := [6]) (by kernel_rfl) (by simp) ?_
              refine AllReady.cons rfl (fun K hK => ?_) ?_
              · go_simp
                exact (hn _ hd1).mono fun e w2 h => by obtain ⟨rfl, h2, hb2⟩ := h; exact hleaf _ _ rfl rfl h2 hb2
              exact AllReady.nil
            exact AllReady.nil
          exact AllReady.nil
        refine AllReady.cons rfl (fun K hK => ?_) ?_
        · go_simp
          refine hK _ _ ?_
          clear hK K
          refine wpAny_ready (rs := [1, 5]) (by kernel_rfl) (by simp) ?_
          refine AllReady.cons rfl (fun K hK => ?_) ?_
          · go_simp
            refine hK _ _ ?_
            clear hK K
            refine wpAny_ready (rs := [5]) (by kernel_rfl) (by simp) ?_
            refine AllReady.cons rfl (fun K hK => ?_) ?_
            · go_simp
              refine hK _ _ ?_
              clear hK K
              refine wpAny_ready (rs := [6]) (by kernel_rfl) (by simp) ?_
              refine AllReady.cons rfl (fun K hK => ?_) ?_
              · go_simp
                exact (hn _ hd1).mono fun e w2 h => by obtain ⟨rfl, h2, hb2⟩ := h; exact hleaf _ _ rfl rfl h2 hb2
              exact AllReady.nil
            exact AllReady.nil
          refine AllReady.cons rfl (fun K hK => ?_) ?_
          · go_simp
            refine hK _ _ ?_
            clear hK K
            refine wpAny_ready (rs := [1]) (by kernel_rfl) (by simp) ?_
            refine AllReady.cons rfl (fun K hK => ?_) ?_
            · go_simp
              refine hK _ _ ?_
              clear hK K
              refine wpAny_ready (rs := [6]) (by kernel_rfl) (by simp) ?_
              refine AllReady.cons rfl (fun K hK => ?_) ?_
              · go_simp
                exact (hn _ hd1).mono fun e w2 h => by obtain ⟨rfl, h2, hb2⟩ := h; exact hleaf _ _ rfl rfl h2 hb2
              exact AllReady.nil
            exact AllReady.nil
          exact AllReady.nil
        exact AllReady.nil
      exact AllReady.nil
    refine AllReady.cons rfl (fun K hK => ?_) ?_
    · go_simp
      refine hK _ _ ?_
      clear hK K
      refine wpAny_ready (rs := [0, 3]) (by kernel_rfl) (by simp) ?_
      refine AllReady.cons rfl (fun K hK => ?_) ?_
      · go_simp
        refine hK _ _ ?_
        clear hK K
        refine wpAny_ready (rs := [3]) (by kernel_rfl) (by simp) ?_
        refine AllReady.cons rfl (fun K hK => ?_) ?_
        · go_simp
          refine hK _ _ ?_
          clear hK K
          refine wpAny_ready (rs := [4]) (by kernel_rfl) (by simp) ?_
          refine AllReady.cons rfl (fun K hK => ?_) ?_
          · go_simp
            refine hK _ _ ?_
            clear hK K
            refine wpAny_ready (rs := [5]) (by kernel_rfl) (by simp) ?_
            refine AllReady.cons rfl (fun K hK => ?_) ?_
            · go_simp
              refine hK _ _ ?_
              clear hK K
              refine wpAny_ready (rs := [6]) (by kernel_rfl) (by simp) ?_
              refine AllReady.cons rfl (fun K hK => ?_) ?_
              · go_simp
                exact (hn _ hd1).mono fun e w2 h => by obtain ⟨rfl, h2, hb2⟩ := h; exact hleaf _ _ rfl rfl h2 hb2
              exact AllReady.nil
            exact AllReady.nil
          exact AllReady.nil
        exact AllReady.nil
      refine AllReady.cons rfl (fun K hK => ?_) ?_
      · go_simp
        refine hK _ _ ?_
        clear hK K
        refine wpAny_ready (rs := [0, 4]) (by kernel_rfl) (by simp) ?_
        refine AllReady.cons rfl (fun K hK => ?_) ?_
        · go_simp
          refine hK _ _ ?_
          clear hK K
          refine wpAny_ready (rs := [4]) (by kernel_rfl) (by simp) ?_
          refine AllReady.cons rfl (fun K hK => ?_) ?_
          · go_simp
            refine hK _ _ ?_
            clear hK K
            refine wpAny_ready (rs := [5]) (by kernel_rfl) (by simp) ?_
            refine AllReady.cons rfl (fun K hK => ?_) ?_
            · go_simp
              refine hK _ _ ?_
              clear hK K
              refine wpAny_ready (rs := [6]) (by kernel_rfl) (by simp) ?_
              refine AllReady.cons rfl (fun K hK => ?_) ?_
              · go_simp
                exact (hn _ hd1).mono fun e w2 h => by obtain ⟨rfl, h2, hb2⟩ := h; exact hleaf _ _ rfl rfl h2 hb2
              exact AllReady.nil
            exact AllReady.nil
          exact AllReady.nil
        refine AllReady.cons rfl (fun K hK => ?_) ?_
        · go_simp
          refine hK _ _ ?_
          clear hK K
          refine wpAny_ready (rs := [0, 5]) (by kernel_rfl) (by simp) ?_
          refine AllReady.cons rfl (fun K hK => ?_) ?_
          · go_simp
            refine hK _ _ ?_
            clear hK K
            refine wpAny_ready (rs := [5]) (by kernel_rfl) (by simp) ?_
            refine AllReady.cons rfl (fun K hK => ?_) ?_
            · go_simp
              refine hK _ _ ?_
              clear hK K
              refine wpAny_ready (rs := [6]) (by kernel_rfl) (by simp) ?_
              refine AllReady.cons rfl (fun K hK => ?_) ?_
              · go_simp
                exact (hn _ hd1).mono fun e w2 h => by obtain ⟨rfl, h2, hb2⟩ := h; exact hleaf _ _ rfl rfl h2 hb2
              exact AllReady.nil
            exact AllReady.nil
          refine AllReady.cons rfl (fun K hK => ?_) ?_
          · go_simp
            refine hK _ _ ?_
            clear hK K
            refine wpAny_ready (rs := [0, 6]) (by kernel_rfl) (by simp) ?_
            refine AllReady.cons rfl (fun K hK => ?_) ?_
            · go_simp
              refine hK _ _ ?_
              clear hK K
              refine wpAny_ready (rs := [6]) (by kernel_rfl) (by simp) ?_
              refine AllReady.cons rfl (fun K hK => ?_) ?_
              · go_simp
                exact (hn _ hd1).mono fun e w2 h => by obtain ⟨rfl, h2, hb2⟩ := h; exact hleaf _ _ rfl rfl h2 hb2
              exact AllReady.nil
            refine AllReady.cons rfl (fun K hK => ?_) ?_
            · go_simp
              exact (hn _ hd1).mono fun e w2 h => by obtain ⟨rfl, h2, hb2⟩ := h; exact hleaf _ _ rfl rfl h2 hb2
            exact AllReady.nil
          exact AllReady.nil
        exact AllReady.nil
      exact AllReady.nil
    refine AllReady.cons rfl (fun K hK => ?_) ?_
    · go_simp
      refine hK _ _ ?_
      clear hK K
      refine wpAny_ready (rs := [0, 1, 4]) (by kernel_rfl) (by simp) ?_
      refine AllReady.cons rfl (fun K hK => ?_) ?_
      · go_simp
        refine hK _ _ ?_
        clear hK K
        refine wpAny_ready (rs := [1, 4]) (by kernel_rfl) (by simp) ?_
        refine AllReady.cons rfl (fun K hK => ?_) ?_
        · go_simp
          refine hK _ _ ?_
          clear hK K
          refine wpAny_ready (rs := [4]) (by kernel_rfl) (by simp) ?_
          refine AllReady.cons rfl (fun K hK => ?_) ?_
          · go_simp
            refine hK _ _ ?_
            clear hK K
            refine wpAny_ready (rs := [5]) (by kernel_rfl) (by simp) ?_
            refine AllReady.cons rfl (fun K hK => ?_) ?_
            · go_simp
              refine hK _ _ ?_
              clear hK K
              refine wpAny_ready (rs := [6]) (by kernel_rfl) (by simp) ?_
              refine AllReady.cons rfl (fun K hK => ?_) ?_
              · go_simp
                exact (hn _ hd1).mono fun e w2 h => by obtain ⟨rfl, h2, hb2⟩ := h; exact hleaf _ _ rfl rfl h2 hb2
              exact AllReady.nil
            exact AllReady.nil
          exact AllReady.nil
        refine AllReady.cons rfl (fun K hK => ?_) ?_
        · go_simp
          refine hK _ _ ?_
          clear hK K
          refine wpAny_ready (rs := [1, 5]) (by kernel_rfl) (by simp) ?_
          refine AllReady.cons rfl (fun K hK => ?_) ?_
          · go_simp
            refine hK _ _ ?_
            clear hK K
            refine wpAny_ready (rs := [5]) (by kernel_rfl) (by simp) ?_
            refine AllReady.cons rfl (fun K hK => ?_) ?_
            · go_simp
              refine hK _ _ ?_
              clear hK K
              refine wpAny_ready (rs := [6]) (by kernel_rfl) (by simp) ?_
              refine AllReady.cons rfl (fun K hK => ?_) ?_
              · go_simp
                exact (hn _ hd1).mono fun e w2 h => by obtain ⟨rfl, h2, hb2⟩ := h; exact hleaf _ _ rfl rfl h2 hb2
              exact AllReady.nil
            exact AllReady.nil
          refine AllReady.cons rfl (fun K hK => ?_) ?_
          · go_simp
            refine hK _ _ ?_
            clear hK K
            refine wpAny_ready (rs := [1]) (by kernel_rfl) (by simp) ?_
            refine AllReady.cons rfl (fun K hK => ?_) ?_
            · go_simp
              refine hK _ _ ?_
              clear hK K
              refine wpAny_ready (rs := [6]) (by kernel_rfl) (by simp) ?_
              refine AllReady.cons rfl (fun K hK => ?_) ?_
              · go_simp
                exact (hn _ hd1).mono fun e w2 h => by obtain ⟨rfl, h2, hb2⟩ := h; exact hleaf _ _ rfl rfl h2 hb2
              exact AllReady.nil
            exact AllReady.nil
          exact AllReady.nil
        exact AllReady.nil
      refine AllReady.cons rfl (fun K hK => ?_) ?_
      · go_simp
        refine hK _ _ ?_
        clear hK K
        refine wpAny_ready (rs := [0, 4]) (by kernel_rfl) (by simp) ?_
        refine AllReady.cons rfl (fun K hK => ?_) ?_
        · go_simp
          refine hK _ _ ?_
          clear hK K
          refine wpAny_ready (rs := [4]) (by kernel_rfl) (by simp) ?_
          refine AllReady.cons rfl (fun K hK => ?_) ?_
          · go_simp
            refine hK _ _ ?_
            clear hK K
            refine wpAny_ready (rs := [5]) (by kernel_rfl) (by simp) ?_
            refine AllReady.cons rfl (fun K hK => ?_) ?_
            · go_simp
              refine hK _ _ ?_
              clear hK K
              refine wpAny_ready (rs := [6]) (by kernel_rfl) (by simp) ?_
              refine AllReady.cons rfl (fun K hK => ?_) ?_
              · go_simp
                exact (hn _ hd1).mono fun e w2 h => by obtain ⟨rfl, h2, hb2⟩ := h; exact hleaf _ _ rfl rfl h2 hb2
              exact AllReady.nil
            exact AllReady.nil
          exact AllReady.nil
        refine AllReady.cons rfl (fun K hK => ?_) ?_
        · go_simp
          refine hK _ _ ?_
          clear hK K
          refine wpAny_ready (rs := [0, 5]) (by kernel_rfl) (by simp) ?_
          refine AllReady.cons rfl (fun K hK => ?_) ?_
          · go_simp
            refine hK _ _ ?_
            clear hK K
            refine wpAny_ready (rs := [5]) (by kernel_rfl) (by simp) ?_
            refine AllReady.cons rfl (fun K hK => ?_) ?_
            · go_simp
              refine hK _ _ ?_
              clear hK K
              refine wpAny_ready (rs := [6]) (by kernel_rfl) (by simp) ?_
              refine AllReady.cons rfl (fun K hK => ?_) ?_
              · go_simp
                exact (hn _ hd1).mono fun e w2 h => by obtain ⟨rfl, h2, hb2⟩ := h; exact hleaf _ _ rfl rfl h2 hb2
              exact AllReady.nil
            exact AllReady.nil
          refine AllReady.cons rfl (fun K hK => ?_) ?_
          · go_simp
            refine hK _ _ ?_
            clear hK K
            refine wpAny_ready (rs := [0, 6]) (by kernel_rfl) (by simp) ?_
            refine AllReady.cons rfl (fun K hK => ?_) ?_
            · go_simp
              refine hK _ _ ?_
              clear hK K
              refine wpAny_ready (rs := [6]) (by kernel_rfl) (by simp) ?_
              refine AllReady.cons rfl (fun K hK => ?_) ?_
              · go_simp
                exact (hn _ hd1).mono fun e w2 h => by obtain ⟨rfl, h2, hb2⟩ := h; exact hleaf _ _ rfl rfl h2 hb2
              exact AllReady.nil
            refine AllReady.cons rfl (fun K hK => ?_) ?_
            · go_simp
              exact (hn _ hd1).mono fun e w2 h => by obtain ⟨rfl, h2, hb2⟩ := h; exact hleaf _ _ rfl rfl h2 hb2
            exact AllReady.nil
          exact AllReady.nil
        exact AllReady.nil
      refine AllReady.cons rfl (fun K hK => ?_) ?_
      · go_simp
        refine hK _ _ ?_
        clear hK K
        refine wpAny_ready (rs := [0, 1, 5]) (by kernel_rfl) (by simp) ?_
        refine AllReady.cons rfl (fun K hK => ?_) ?_
        · go_simp
          refine hK _ _ ?_
          clear hK K
          refine wpAny_ready (rs := [1, 5]) (by kernel_rfl) (by simp) ?_
          refine AllReady.cons rfl (fun K hK => ?_) ?_
          · go_simp
            refine hK _ _ ?_
            clear hK K
            refine wpAny_ready (rs := [5]) (by kernel_rfl) (by simp) ?_
            refine AllReady.cons rfl (fun K hK => ?_) ?_
            · go_simp
              refine hK _ _ ?_
              clear hK K
              refine wpAny_ready (rs := [6]) (by kernel_rfl) (by simp) ?_
              refine AllReady.cons rfl (fun K hK => ?_) ?_
              · go_simp
                exact (hn _ hd1).mono fun e w2 h => by obtain ⟨rfl, h2, hb2⟩ := h; exact hleaf _ _ rfl rfl h2 hb2
              exact AllReady.nil
            exact AllReady.nil
          refine AllReady.cons rfl (fun K hK => ?_) ?_
          · go_simp
            refine hK _ _ ?_
            clear hK K
            refine wpAny_ready (rs := [1]) (by kernel_rfl) (by simp) ?_
            refine AllReady.cons rfl (fun K hK => ?_) ?_
            · go_simp
              refine hK _ _ ?_
              clear hK K
              refine wpAny_ready (rs := [6]) (by kernel_rfl) (by simp) ?_
              refine AllReady.cons rfl (fun K hK => ?_) ?_
              · go_simp
                exact (hn _ hd1).mono fun e w2 h => by obtain ⟨rfl, h2, hb2⟩ := h; exact hleaf _ _ rfl rfl h2 hb2
              exact AllReady.nil
            exact AllReady.nil
          exact AllReady.nil
        refine AllReady.cons rfl (fun K hK => ?_) ?_
        · go_simp
          refine hK _ _ ?_
          clear hK K
          refine wpAny_ready (rs := [0, 5]) (by kernel_rfl) (by simp) ?_
          refine AllReady.cons rfl (fun K hK => ?_) ?_
          · go_simp
            refine hK _ _ ?_
            clear hK K
            refine wpAny_ready (rs := [5]) (by kernel_rfl) (by simp) ?_
            refine AllReady.cons rfl (fun K hK => ?_) ?_
            · go_simp
              refine hK _ _ ?_
              clear hK K
              refine wpAny_ready (rs := [6]) (by kernel_rfl) (by simp) ?_
              refine AllReady.cons rfl (fun K hK => ?_) ?_
              · go_simp
                exact (hn _ hd1).mono fun e w2 h => by obtain ⟨rfl, h2, hb2⟩ := h; exact hleaf _ _ rfl rfl h2 hb2
              exact AllReady.nil
            exact AllReady.nil
          refine AllReady.cons rfl (fun K hK => ?_) ?_
          · go_simp
            refine hK _ _ ?_
            clear hK K
            refine wpAny_ready (rs := [0, 6]) (by kernel_rfl) (by simp) ?_
            refine AllReady.cons rfl (fun K hK => ?_) ?_
            · go_simp
              refine hK _ _ ?_
              clear hK K
              refine wpAny_ready (rs := [6]) (by kernel_rfl) (by simp) ?_
              refine AllReady.cons rfl (fun K hK => ?_) ?_
              · go_simp
                exact (hn _ hd1).mono fun e w2 h => by obtain ⟨rfl, h2, hb2⟩ := h; exact hleaf _ _ rfl rfl h2 hb2
              exact AllReady.nil
            refine AllReady.cons rfl (fun K hK => ?_) ?_
            · go_simp
              exact (hn _ hd1).mono fun e w2 h => by obtain ⟨rfl, h2, hb2⟩ := h; exact hleaf _ _ rfl rfl h2 hb2
            exact AllReady.nil
          exact AllReady.nil
        refine AllReady.cons rfl (fun K hK => ?_) ?_
        · go_simp
          refine hK _ _ ?_
          clear hK K
          refine wpAny_ready (rs := [0, 1]) (by kernel_rfl) (by simp) ?_
          refine AllReady.cons rfl (fun K hK => ?_) ?_
          · go_simp
            refine hK _ _ ?_
            clear hK K
            refine wpAny_ready (rs := [1]) (by kernel_rfl) (by simp) ?_
            refine AllReady.cons rfl (fun K hK => ?_) ?_
            · go_simp
              refine hK _ _ ?_
              clear hK K
              refine wpAny_ready (rs := [6]) (by kernel_rfl) (by simp) ?_
              refine AllReady.cons rfl (fun K hK => ?_) ?_
              · go_simp
                exact (hn _ hd1).mono fun e w2 h => by obtain ⟨rfl, h2, hb2⟩ := h; exact hleaf _ _ rfl rfl h2 hb2
              exact AllReady.nil
            exact AllReady.nil
          refine AllReady.cons rfl (fun K hK => ?_) ?_
          · go_simp
            refine hK _ _ ?_
            clear hK K
            refine wpAny_ready (rs := [0, 6]) (by kernel_rfl) (by simp) ?_
            refine AllReady.cons rfl (fun K hK => ?_) ?_
            · go_simp
              refine hK _ _ ?_
              clear hK K
              refine wpAny_ready (rs := [6]) (by kernel_rfl) (by simp) ?_
              refine AllReady.cons rfl (fun K hK => ?_) ?_
              · go_simp
                exact (hn _ hd1).mono fun e w2 h => by obtain ⟨rfl, h2, hb2⟩ := h; exact hleaf _ _ rfl rfl h2 hb2
              exact AllReady.nil
            refine AllReady.cons rfl (fun K hK => ?_) ?_
            · go_simp
              exact (hn _ hd1).mono fun e w2 h => by obtain ⟨rfl, h2, hb2⟩ := h; exact hleaf _ _ rfl rfl h2 hb2
            exact AllReady.nil
          exact AllReady.nil
        exact AllReady.nil
      exact AllReady.nil
    exact AllReady.nil
  exact AllReady.nil
end Go.Proofs.Yteblpjnkinghoaa.J
/- The program's next, whole. -/
set_option linter.unusedVariables false
set_option linter.unusedSimpArgs false
namespace Go.Proofs.Yteblpjnkinghoaa.J
open Go.RowKit Go.Proofs.YteblpjnkinghoaaW.PrintWords Go.Proofs.YteblpjnkinghoaaW.PrintLast Go.Proofs.YteblpjnkinghoaaW.PrintMore
/-- What next does: at the end of the bytes or at something wrong the state is marked; else the note and its sum. -/
def NextEnd (R E : Nat) (s : ByteArray) (used sum : Int) (w : World) : Out → Ending → World → Prop
  | .torn, e, w' => e = .returned (.tuple #[nilV, .bool false]) ∧ St E used sum true 0 w' ∧ But (fun b => b = R ∨ b = E) w w'
  | .wrong, e, w' => e = .returned (.tuple #[nilV, .bool false]) ∧ St E used sum false 12 w' ∧ But (fun b => b = R ∨ b = E) w w'
  | .ok n sm fin, e, w' => e = .returned (.tuple #[.agg #[.int .i64 n.f0, .int .i64 n.f1, .string n.f2, .bool n.f3, .string n.f4], .bool true]) ∧ St E used sm false 0 w' ∧ Rd R s fin w' ∧ But (fun b => b = R ∨ b = E) w w'

theorem next_torn (R E : Nat) (s : ByteArray) (i : Int) (used sum : Int) (w : World) (h : Rd R s i w) (hE : St E used sum false 0 w) (hER : ¬ E = R) (hi : 0 ≤ i) (hb : (s.size : Int) ≤ 100000) (hi2 : i ≤ s.size) (ho : peek s i sum = .torn) :
    Calls Try.prog 73 #[.pointer (some ⟨R, 0, none⟩), .pointer (some ⟨E, 0, none⟩)] w (NextEnd R E s used sum w .torn) := by
  refine next_dead R E s i used sum w h hE 119 _ (fun w' h' => ?_) ?_
  · have hn := note_calls R s i sum w' h' hi hb hi2
    rw [ho] at hn
    exact hn
  · intro B Z w1 w2 T hBR hBE hZR hZE hB hZ hb1 h1 h4 h5 hb2
    have hS := h1.st.past hb2 hER
    have hc3 : w1.cell? ⟨B, 0, none⟩ = some (.pointer (some ⟨E, 0, none⟩)) := (blk_cell h1.bk 0).trans rfl
    have hc3' := (hb2.cell (p := ⟨B, 0, none⟩) (blk_lt h1.bk) hBR).trans hc3
    refine next_leaf T R E B Z 119 w w2 _ (w2.setCell ⟨E, 2, none⟩ (.bool true)) h4 h5 ?_ (catch_torn B E [] w2 hc3' hS.c2 hS.z2) ⟨rfl, hS.set2 true, ?_⟩
    · rw [Below.heap_setCell _ _ _ _ hZE]
      exact (hb2.block Z (blk_lt h1.zt) hZR).trans h1.zt
    · exact ((But.of_below hb1).trans (hb2.mono fun k _ hk => Or.inl hk)).set (S := fun b => b = R ∨ b = E) (p := ⟨E, 2, none⟩) (Or.inr rfl) _
theorem next_wrong (R E : Nat) (s : ByteArray) (i : Int) (used sum : Int) (w : World) (h : Rd R s i w) (hE : St E used sum false 0 w) (hER : ¬ E = R) (hi : 0 ≤ i) (hb : (s.size : Int) ≤ 100000) (hi2 : i ≤ s.size) (ho : peek s i sum = .wrong) :
    Calls Try.prog 73 #[.pointer (some ⟨R, 0, none⟩), .pointer (some ⟨E, 0, none⟩)] w (NextEnd R E s used sum w .wrong) := by
  refine next_dead R E s i used sum w h hE 120 _ (fun w' h' => ?_) ?_
  · have hn := note_calls R s i sum w' h' hi hb hi2
    rw [ho] at hn
    exact hn
  · intro B Z w1 w2 T hBR hBE hZR hZE hB hZ hb1 h1 h4 h5 hb2
    have hS := h1.st.past hb2 hER
    have hc3 : w1.cell? ⟨B, 0, none⟩ = some (.pointer (some ⟨E, 0, none⟩)) := (blk_cell h1.bk 0).trans rfl
    have hc3' := (hb2.cell (p := ⟨B, 0, none⟩) (blk_lt h1.bk) hBR).trans hc3
    refine next_leaf T R E B Z 120 w w2 _ (w2.setCell ⟨E, 3, none⟩ (.int .i64 12)) h4 h5 ?_ (catch_wrong B E [] w2 hc3' hS.c3 hS.z3) ⟨rfl, hS.set3 12, ?_⟩
    · rw [Below.heap_setCell _ _ _ _ hZE]
      exact (hb2.block Z (blk_lt h1.zt) hZR).trans h1.zt
    · exact ((But.of_below hb1).trans (hb2.mono fun k _ hk => Or.inl hk)).set (S := fun b => b = R ∨ b = E) (p := ⟨E, 3, none⟩) (Or.inr rfl) _
theorem St.set1 {E : Nat} {used sum : Int} {t : Bool} {e : Int} {w : World} (h : St E used sum t e w) (x : Int) : St E used x t e (w.setCell ⟨E, 1, none⟩ (.int .u64 x)) :=
  ⟨(World.cell?_setCell_other _ _ _ _ (by simp)).trans h.c0, World.cell?_setCell_same _ _ _ h.c1, (World.cell?_setCell_other _ _ _ _ (by simp)).trans h.c2, (World.cell?_setCell_other _ _ _ _ (by simp)).trans h.c3,
   (World.frozen?_setCell _ _ _ _).trans h.z0, (World.frozen?_setCell _ _ _ _).trans h.z1, (World.frozen?_setCell _ _ _ _).trans h.z2, (World.frozen?_setCell _ _ _ _).trans h.z3⟩
theorem St.far {E : Nat} {used sum : Int} {t : Bool} {e : Int} {w : World} (h : St E used sum t e w) {p : Addr} (hp : ¬ p.block = E) (v : Value) : St E used sum t e (w.setCell p v) :=
  ⟨(World.cell?_setCell_other _ _ _ _ (far_ne hp)).trans h.c0, (World.cell?_setCell_other _ _ _ _ (far_ne hp)).trans h.c1, (World.cell?_setCell_other _ _ _ _ (far_ne hp)).trans h.c2, (World.cell?_setCell_other _ _ _ _ (far_ne hp)).trans h.c3,
   (World.frozen?_setCell _ _ _ _).trans h.z0, (World.frozen?_setCell _ _ _ _).trans h.z1, (World.frozen?_setCell _ _ _ _).trans h.z2, (World.frozen?_setCell _ _ _ _).trans h.z3⟩
/-- A note laid into a block that holds one. -/
def lay39 (w : World) (Z : Nat) (n : S39) : World := ((((w.setCell ⟨Z, 0, none⟩ (.int .i64 n.f0)).setCell ⟨Z, 1, none⟩ (.int .i64 n.f1)).setCell ⟨Z, 2, none⟩ (.string n.f2)).setCell ⟨Z, 3, none⟩ (.bool n.f3)).setCell ⟨Z, 4, none⟩ (.string n.f4)
theorem lay39_blk {w : World} {Z : Nat} {a b : Int} {c : ByteArray} {d : Bool} {e : ByteArray} (h : w.heap[Z]? = some (.cells #[.int .i64 a, .int .i64 b, .string c, .bool d, .string e] 39 (0, 0))) (n : S39) :
    (lay39 w Z n).heap[Z]? = some (.cells #[.int .i64 n.f0, .int .i64 n.f1, .string n.f2, .bool n.f3, .string n.f4] 39 (0, 0)) := by
  unfold lay39
  refine blk_put (cs := #[.int .i64 n.f0, .int .i64 n.f1, .string n.f2, .bool n.f3, .string e]) ?_ 4 _ rfl
  refine blk_put (cs := #[.int .i64 n.f0, .int .i64 n.f1, .string n.f2, .bool d, .string e]) ?_ 3 _ rfl
  refine blk_put (cs := #[.int .i64 n.f0, .int .i64 n.f1, .string c, .bool d, .string e]) ?_ 2 _ rfl
  refine blk_put (cs := #[.int .i64 n.f0, .int .i64 b, .string c, .bool d, .string e]) ?_ 1 _ rfl
  refine blk_put (cs := #[.int .i64 a, .int .i64 b, .string c, .bool d, .string e]) ?_ 0 _ rfl
  exact h
theorem lay39_rd {w : World} {Z : Nat} {R : Nat} {s : ByteArray} {i : Int} (h : Rd R s i w) (hZ : ¬ Z = R) (n : S39) : Rd R s i (lay39 w Z n) :=
  ((((h.far (p := ⟨Z, 0, none⟩) hZ _).far (p := ⟨Z, 1, none⟩) hZ _).far (p := ⟨Z, 2, none⟩) hZ _).far (p := ⟨Z, 3, none⟩) hZ _).far (p := ⟨Z, 4, none⟩) hZ _
theorem lay39_st {w : World} {Z E : Nat} {used sum : Int} {t : Bool} {e : Int} (h : St E used sum t e w) (hZ : ¬ Z = E) (n : S39) : St E used sum t e (lay39 w Z n) :=
  ((((h.far (p := ⟨Z, 0, none⟩) hZ _).far (p := ⟨Z, 1, none⟩) hZ _).far (p := ⟨Z, 2, none⟩) hZ _).far (p := ⟨Z, 3, none⟩) hZ _).far (p := ⟨Z, 4, none⟩) hZ _
theorem lay39_but {a w : World} {Z : Nat} {S : Nat → Prop} (h : But S a w) (hZ : a.heap.size ≤ Z) (n : S39) : But S a (lay39 w Z n) :=
  ((((h.new (p := ⟨Z, 0, none⟩) hZ _).new (p := ⟨Z, 1, none⟩) hZ _).new (p := ⟨Z, 2, none⟩) hZ _).new (p := ⟨Z, 3, none⟩) hZ _).new (p := ⟨Z, 4, none⟩) hZ _
set_option maxHeartbeats 8000000 in
set_option maxRecDepth 100000 in
theorem next_ok (R E : Nat) (s : ByteArray) (i : Int) (used sum : Int) (w : World) (h : Rd R s i w) (hE : St E used sum false 0 w) (hER : ¬ E = R) (hi : 0 ≤ i) (hb : (s.size : Int) ≤ 100000) (hi2 : i ≤ s.size) (n : S39) (sm fin : Int) (ho : peek s i sum = .ok n sm fin) :
    Calls Try.prog 73 #[.pointer (some ⟨R, 0, none⟩), .pointer (some ⟨E, 0, none⟩)] w (NextEnd R E s used sum w (.ok n sm fin)) := by
  have hn := fun w' h' => note_calls R s i sum w' h' hi hb hi2
  rw [ho] at hn
  obtain ⟨f0, f1, f2, f3, f4⟩ := n
  have hmf : ∀ (fn : Fn) (first cap : Array Value) (w : World), (Instr.makeFunc fn first cap).run Try.prog w = .ok (.func fn first cap) w := fun _ _ _ _ => rfl
  obtain ⟨h1, hb1⟩ := next_start R E s i used sum w h hE
  go_enter_defers Try.func73, Try.ntmps73
  go_upto_region 2 with (fail)
  have hBR : ¬ w.heap.size = R := by have := h.lt; omega
  have hBE : ¬ w.heap.size = E := by have := cell_lt hE.c0; simp at this; omega
  have hZR : ¬ w.heap.size + 1 = R := by have := h.lt; omega
  have hZE : ¬ w.heap.size + 1 = E := by have := cell_lt hE.c0; simp at this; omega
  have hEZ : ¬ E = w.heap.size + 1 := fun e => hZE e.symm
  have hZB : ¬ w.heap.size + 1 = w.heap.size := by omega
  have hZw0 : w.heap.size ≤ w.heap.size + 1 := by omega
  replace hb1 := But.of_below (S := fun b => b = R ∨ b = E) hb1
  obtain ⟨B, hB⟩ : ∃ B, w.heap.size = B := ⟨_, rfl⟩
  obtain ⟨Z, hZ⟩ : ∃ Z, w.heap.size + 1 = Z := ⟨_, rfl⟩
  have hZw : w.heap.size ≤ Z := by omega
  rw [hZ, hB] at h1 hZB
  rw [hB] at hBR hBE
  rw [hZ] at hZR hZE hEZ
  rw [hZ, hB]
  generalize (w.alloc (.cells #[.pointer (some ⟨E, 0, none⟩)] 83)).alloc nil39 = w1 at h1 hb1 ⊢
  clear hZw0
  have hc3 : w1.drew.cell? ⟨B, 0, none⟩ = some (.pointer (some ⟨E, 0, none⟩)) := (blk_cell h1.bk 0).trans rfl
  have hc1 : w1.drew.cell? ⟨E, 1, none⟩ = some (.int .u64 sum) := h1.st.c1
  have hd1 : Rd R s i w1.drew := h1.rd.past (below_drew (Below.refl _ _))
  refine wp_region_noPanic ?_
  go_region_with (go_at_call 87; refine (hn _ hd1).mono ?_; rintro e w2 ⟨rfl, h2, hb2⟩; have hc3' := (hb2.cell (p := ⟨B, 0, none⟩) (blk_lt h1.bk) hBR).trans hc3; have hzt : w2.heap[Z]? = some nil39 := (hb2.block Z (blk_lt h1.zt) hZR).trans h1.zt; have hS : St E used sum false 0 w2 := (h1.st.past (But.of_below (S := (· = R)) (below_drew (Below.refl _ _))) hER).past hb2 hER; have hz0 : w2.cell? ⟨Z, 0, none⟩ = some (.int .i64 0) := (blk_cell hzt 0).trans rfl; have hz1 : w2.cell? ⟨Z, 1, none⟩ = some (.int .i64 0) := (blk_cell hzt 1).trans rfl; have hz2 : w2.cell? ⟨Z, 2, none⟩ = some (.string ⟨#[]⟩) := (blk_cell hzt 2).trans rfl; have hz3 : w2.cell? ⟨Z, 3, none⟩ = some (.bool false) := (blk_cell hzt 3).trans rfl; have hz4 : w2.cell? ⟨Z, 4, none⟩ = some (.string ⟨#[]⟩) := (blk_cell hzt 4).trans rfl; have hf0 := blk_frozen hzt 0; have hf1 := blk_frozen hzt 1; have hf2 := blk_frozen hzt 2; have hf3 := blk_frozen hzt 3; have hf4 := blk_frozen hzt 4; have hs1 := hS.c1; have hsz := hS.z1)
  all_goals
    refine NoPanic.normal ?_
    have hzt3 := lay39_blk hzt ⟨f0, f1, f2, f3, f4⟩
    have h3 := lay39_rd h2 hZR ⟨f0, f1, f2, f3, f4⟩
    have hS3 := lay39_st hS hZE ⟨f0, f1, f2, f3, f4⟩
    have hb3 := lay39_but ((hb1.drew).trans (hb2.mono fun k _ hk => Or.inl hk)) hZw ⟨f0, f1, f2, f3, f4⟩
    have e3 : lay39 w2 Z ⟨f0, f1, f2, f3, f4⟩ = ((((w2.setCell ⟨Z, 0, none⟩ (.int .i64 f0)).setCell ⟨Z, 1, none⟩ (.int .i64 f1)).setCell ⟨Z, 2, none⟩ (.string f2)).setCell ⟨Z, 3, none⟩ (.bool f3)).setCell ⟨Z, 4, none⟩ (.string f4) := rfl
    rw [← e3]
    clear e3
    generalize lay39 w2 Z ⟨f0, f1, f2, f3, f4⟩ = w3 at hzt3 h3 hS3 hb3 ⊢
    replace h3 := h3.far (p := ⟨E, 1, none⟩) hER (.int .u64 sm)
    replace hS3 := hS3.set1 sm
    replace hb3 := hb3.set (S := fun b => b = R ∨ b = E) (p := ⟨E, 1, none⟩) (Or.inr rfl) (.int .u64 sm)
    replace hzt3 := (Below.heap_setCell w3 ⟨E, 1, none⟩ (.int .u64 sm) Z hZE).trans hzt3
    generalize w3.setCell ⟨E, 1, none⟩ (.int .u64 sm) = w4 at hzt3 h3 hS3 hb3 ⊢
    clear hc3' hzt hS hz0 hz1 hz2 hz3 hz4 hf0 hf1 hf2 hf3 hf4 hs1 hsz hb2 h2
    have hz0 : w4.cell? ⟨Z, 0, none⟩ = some (.int .i64 f0) := (blk_cell hzt3 0).trans rfl
    have hz1 : w4.cell? ⟨Z, 1, none⟩ = some (.int .i64 f1) := (blk_cell hzt3 1).trans rfl
    have hz2 : w4.cell? ⟨Z, 2, none⟩ = some (.string f2) := (blk_cell hzt3 2).trans rfl
    have hz3 : w4.cell? ⟨Z, 3, none⟩ = some (.bool f3) := (blk_cell hzt3 3).trans rfl
    have hz4 : w4.cell? ⟨Z, 4, none⟩ = some (.string f4) := (blk_cell hzt3 4).trans rfl
    have hf0 := blk_frozen hzt3 0
    have hf1 := blk_frozen hzt3 1
    have hf2 := blk_frozen hzt3 2
    have hf3 := blk_frozen hzt3 3
    have hf4 := blk_frozen hzt3 4
    go_wp2
    refine leaves_cons (f := 86) (args := #[.pointer (some ⟨B, 0, none⟩)]) (by simp) (by simp [go_sem]) ?_
    refine (catch_idle B E _).mono ?_
    rintro e u' w5 ⟨rfl, rfl, rfl⟩
    have e5 : lay39 w4 Z ⟨f0, f1, f2, f3, f4⟩ = ((((w4.setCell ⟨Z, 0, none⟩ (.int .i64 f0)).setCell ⟨Z, 1, none⟩ (.int .i64 f1)).setCell ⟨Z, 2, none⟩ (.string f2)).setCell ⟨Z, 3, none⟩ (.bool f3)).setCell ⟨Z, 4, none⟩ (.string f4) := rfl
    rw [← e5]
    have hzt5 := lay39_blk hzt3 ⟨f0, f1, f2, f3, f4⟩
    have h5 := lay39_rd h3 hZR ⟨f0, f1, f2, f3, f4⟩
    have hS5 := lay39_st hS3 hZE ⟨f0, f1, f2, f3, f4⟩
    have hb5 := lay39_but hb3 hZw ⟨f0, f1, f2, f3, f4⟩
    exact ⟨_, results_list (rs := [.cell 4 39, .tmp 5]) rfl (by simp) (.cell Z 39 #[.int .i64 f0, .int .i64 f1, .string f2, .bool f3, .string f4] (0, 0) _ rfl hzt5 Try.underlying39 rfl (by kernel_rfl) (.tmp .nil)), rfl, hS5, h5, hb5⟩
end Go.Proofs.Yteblpjnkinghoaa.J
/- A range over a function that writes one cell block of the caller's (E) and one of its own, laid first of all; the body never leaves the loop. -/
set_option linter.unusedVariables false
set_option linter.unusedSimpArgs false
namespace Go.Proofs.Yteblpjnkinghoaa.J
open Go.RowKit Go.Proofs.YteblpjnkinghoaaW.PrintWords Go.Proofs.YteblpjnkinghoaaW.PrintLast Go.Proofs.YteblpjnkinghoaaW.PrintMore
theorem But.put {S : Nat → Prop} {a w : World} (h : But S a w) {l : Nat} (hl : S l ∨ a.heap.size ≤ l) (o : Obj) : But S a (w.putObj l o) :=
  ⟨h.os, h.tape, h.output, by rw [World.putObj_size]; exact h.size, fun k hk hs => by
    rw [World.putObj_heap_other (fun e => by rcases hl with hl | hl; exact hs (e ▸ hl); omega)]
    exact h.block k hk hs⟩
theorem But.alloc {S : Nat → Prop} {a w : World} (h : But S a w) (o : Obj) : But S a (w.alloc o) :=
  h.trans (But.of_below ((Below.refl _ _).alloc (Nat.le_refl _) o))
/-- What a round may not touch: the blocks T that hold cells. -/
def Keeps (T : Nat → Prop) (A B : World) : Prop := A.heap.size ≤ B.heap.size ∧ ∀ k o, T k → A.heap[k]? = some o → o.isCells = true → B.heap[k]? = some o
theorem Keeps.refl (T : Nat → Prop) (A : World) : Keeps T A A := ⟨Nat.le_refl _, fun _ _ _ h _ => h⟩
theorem Keeps.trans {T : Nat → Prop} {A B C : World} (h : Keeps T A B) (k : Keeps T B C) : Keeps T A C :=
  ⟨Nat.le_trans h.1 k.1, fun i o hi ho hc => k.2 i o hi (h.2 i o hi ho hc) hc⟩
theorem Keeps.of_but {T S : Nat → Prop} {A B : World} (h : But S A B) (hs : ∀ k, T k → ¬ S k) : Keeps T A B :=
  ⟨h.size, fun k o hk ho _ => (h.block k (Array.getElem?_eq_some_iff.1 ho).1 (hs k hk)).trans ho⟩
theorem Keeps.put {T : Nat → Prop} {W : World} {l : Nat} {o : Obj} (h : W.heap[l]? = some o) (hc : o.isCells = false) (o' : Obj) : Keeps T W (W.putObj l o') :=
  ⟨by rw [World.putObj_size]; exact Nat.le_refl _, fun k x _ hx hxc => by
    have hne : k ≠ l := fun e => by subst e; rw [h] at hx; cases hx; rw [hc] at hxc; cases hxc
    rw [World.putObj_heap_other hne]
    exact hx⟩
variable {F : Fence} {n : Nat} {P : Program}
/-- The iterator's word: it calls its rounds in turn, touches E, the block that it lays first and new blocks alone, and has told S at its end. -/
def Seq (F : Fence) (n : Nat) (P : Program) (g : Nat) (lb : Array Value) {α : Type} (encs : α → Array Value) (E : Nat) (T : Nat → Prop) (S : List α → World → Prop) (N : Nat) (w : World) : Prop :=
  ∀ (l : Nat) (J : List α → World → Prop) (W : World), Below w.heap.size w W → W.heap.size = w.heap.size + 2 →
    (∀ pre A B, J pre A → But (fun b => b = E ∨ b = W.heap.size) A B → J pre B) →
    (∀ pre x W1, J pre W1 → pre.length < N → W.heap.size < W1.heap.size → YieldAt F (n - 1) P l (encs x) W1 fun e W' => e = .returned (.bool true) ∧ J (pre ++ [x]) W' ∧ Keeps T W1 W') →
    J [] W →
    CallsIn F n P g (#[.func (.yield l) #[] #[]] ++ lb) W fun e W' => (∃ v, e = .returned v) ∧ ∃ xs, S xs W' ∧ J xs W'
theorem wpIn_range {α : Type} {g : Operand} {ps : Array Tmp} {assign body : Code} {Q : Exit → Act → World → Prop} {a : Act} {w : World}
    (hro : F.round = none) (h1 : 1 ≤ n) {gf : Nat} {lb : Array Value} (hg : a.eval g = .func (.func gf) #[] lb) (hFg : F.fn gf) (eg : ∀ args w, (callFunc gf args).run P w = .ok (.enter gf args) w)
    {encs : α → Array Value} (hps : ∀ x, (encs x).size = ps.size) {E : Nat} (hE : E < w.heap.size) {T : Nat → Prop} {S : List α → World → Prop} {N : Nat} (hseq : Seq F (n - 1) P gf lb encs E T S N w)
    (hS : ∀ xs A o, S xs A → S xs (A.putObj (w.heap.size + 1) o))
    (I : List α → World → Prop) (hI : ∀ pre A B, I pre A → But (fun b => b = E ∨ w.heap.size ≤ b ∧ b ≤ w.heap.size + 2) A B → I pre B) (h0 : I [] w)
    (Ax : α → Act → World → Prop) (hAx : ∀ x a' A o, Ax x a' A → Ax x a' (A.putObj (w.heap.size + 1) o))
    (hassign : ∀ (l : Nat) (pre : List α) (x : α) (W : World) (K : Act → World → Prop), w.heap.size + 3 ≤ W.heap.size → I pre W → (∀ a' W', Below W.heap.size W W' → Ax x a' W' → K a' W') →
      assign.wpIn (F.inRound l) (n - 1 - 1) P (Exit.then K (fun _ _ _ => False)) { tmps := (ps.zip (encs x)).foldl (fun t (p, v) => t.setIfInBounds p v) a.tmps, defers := [] } W)
    (hbody : ∀ (l : Nat) (pre : List α) (x : α) (a' : Act) (W : World), w.heap.size + 3 ≤ W.heap.size → pre.length < N → I pre W → Ax x a' W → body.wpIn (F.inRound l) (n - 1 - 1) P (fun e _ W' => e = .normal ∧ KeepsFrom w.heap.size W W' ∧ Keeps T W W' ∧ I (pre ++ [x]) W') a' W)
    (hdone : ∀ (xs : List α) (W : World), S xs W → I xs W → W.heap[w.heap.size]? = some (.deferred (some [])) → Q .normal { a with defers := { target := .collected w.heap.size, args := #[] } :: a.defers } W) :
    (Code.rangeFunc g ps assign body).wpIn F n P Q a w := by
  refine wpIn_rangeFunc ?_
  intro fn hfn
  rw [hro]
  -- the loop's record and the block for deferred calls
  obtain ⟨rc, hrc⟩ : ∃ rc : LoopState → Loop, rc = fun st => { state := st, pending := none, fn, tmps := a.tmps, params := ps, assign, body, defers := w.heap.size } := ⟨_, rfl⟩
  obtain ⟨V, hV⟩ : ∃ V, (w.alloc (.deferred (some []))).alloc (.loop (rc .ready)) = V := ⟨_, rfl⟩
  have hsz : V.heap.size = w.heap.size + 2 := by rw [← hV]; simp
  have hVb : Below w.heap.size w V := by rw [← hV]; exact ((Below.refl _ w).alloc (Nat.le_refl _) _).alloc (by simp) _
  have hVl : V.heap[w.heap.size + 1]? = some (.loop (rc .ready)) := by
    rw [← hV]
    have := World.alloc_heap_new (w.alloc (.deferred (some []))) (.loop (rc .ready))
    rwa [World.size_alloc] at this
  have hVd : V.heap[w.heap.size]? = some (.deferred (some [])) := by
    rw [← hV]
    exact (Below.heap_alloc _ _ _ (by simp)).trans (World.alloc_heap_new w _)
  have hVI : I [] V := hI _ _ _ h0 (But.of_below hVb)
  refine ⟨w.heap.size + 1, [{ target := .collected w.heap.size, args := #[] }], V, { target := .fn (.func gf) lb, args := #[.func (.yield (w.heap.size + 1)) #[] #[]] }, V, gf,
    #[.func (.yield (w.heap.size + 1)) #[] #[]] ++ lb, V, ?_, ?_, ?_, ?_, fun _ => h1, ?_⟩
  · rw [← hV, hrc]; exact run_enterLoop_outer _ _ _ _ _
  · simp only [resolve, hg]
    simp [go_sem]
  · intro f' hf'
    simp [Target.leads] at hf'
    subst hf'
    exact hFg
  · simp [invoke, go_sem, eg]
  refine (hseq (w.heap.size + 1) (fun pre W => I pre W ∧ W.heap[w.heap.size + 1]? = some (.loop (rc .ready)) ∧ W.heap[w.heap.size]? = some (.deferred (some []))) V hVb hsz ?_ ?_ ⟨hVI, hVl, hVd⟩).mono ?_
  · -- the iterator's own steps
    rintro pre A B ⟨ha, hl, hd⟩ hb
    rw [hsz] at hb
    refine ⟨hI _ _ _ ha (hb.mono fun k _ hk => ?_), (hb.block _ (Array.getElem?_eq_some_iff.1 hl).1 (fun hk => ?_)).trans hl, (hb.block _ (Array.getElem?_eq_some_iff.1 hd).1 (fun hk => ?_)).trans hd⟩
    · rcases hk with hk | hk
      · exact Or.inl hk
      · exact Or.inr ⟨by omega, by omega⟩
    · rcases hk with hk | hk <;> omega
    · rcases hk with hk | hk <;> omega
  · -- a round
    rintro pre x W ⟨hi, hl, hd⟩ hN hVs
    have hlt : w.heap.size + 1 < W.heap.size := (Array.getElem?_eq_some_iff.1 hl).1
    have hy := run_yield (P := P) (args := encs x) hl (by rw [hrc]; exact hps x)
    rw [hrc] at hy
    refine ⟨fn, _, assign, body, hy, roundIn_of_wpIn hfn (hassign _ pre x W _ (by omega) hi ?_)⟩
    intro a' Wa hba hax
    have hia : I pre Wa := hI _ _ _ hi (But.of_below hba)
    have hla : Wa.heap[w.heap.size + 1]? = some (.loop (rc .ready)) := (hba.block _ hlt).trans hl
    have hda : Wa.heap[w.heap.size]? = some (.deferred (some [])) := (hba.block _ (by omega)).trans hd
    have hlta : w.heap.size + 1 < Wa.heap.size := (Array.getElem?_eq_some_iff.1 hla).1
    refine ⟨_, run_beginRound hla (by rw [hrc]), ?_⟩
    obtain ⟨Wb, hWb⟩ : ∃ Wb, Wa.putObj (w.heap.size + 1) (.loop { rc .ready with state := .busy }) = Wb := ⟨_, rfl⟩
    have hib : I pre Wb := by rw [← hWb]; exact hI _ _ _ hia ((But.refl _ _).put (Or.inl (Or.inr ⟨by omega, by omega⟩)) _)
    have hlb : Wb.heap[w.heap.size + 1]? = some (.loop { rc .ready with state := .busy }) := by rw [← hWb]; exact World.putObj_heap_same hlta
    have hdb : Wb.heap[w.heap.size]? = some (.deferred (some [])) := by rw [← hWb]; exact (World.putObj_heap_other (by omega)).trans hda
    have haxb : Ax x a' Wb := by rw [← hWb]; exact hAx _ _ _ _ hax
    have hkb : Keeps T Wa Wb := by rw [← hWb]; exact Keeps.put hla rfl _
    have hszb : w.heap.size + 3 ≤ Wb.heap.size := by have := hba.size; rw [← hWb, World.putObj_size]; omega
    rw [hWb]
    refine wpIn_mono (hbody _ pre x a' Wb hszb hN hib haxb) ?_
    rintro e a3 W3 ⟨rfl, hk3, hp3, hi3⟩
    have hl3 := hk3.same _ _ (by omega) hlb rfl
    have hd3 := hk3.same _ _ (Nat.le_refl _) hdb rfl
    have hlt3 : w.heap.size + 1 < W3.heap.size := (Array.getElem?_eq_some_iff.1 hl3).1
    refine ⟨_, _, run_endRound none hl3, rfl, ⟨hI _ _ _ hi3 ((But.refl _ _).put (Or.inl (Or.inr ⟨by omega, by omega⟩)) _), ?_, ?_⟩, ?_⟩
    · rw [World.putObj_heap_same hlt3, hrc]; rfl
    · exact (World.putObj_heap_other (by omega)).trans hd3
    · exact (((Keeps.of_but (But.of_below (S := fun _ => False) hba) (fun _ _ h => h)).trans hkb).trans hp3).trans (Keeps.put hl3 rfl _)
  · -- behind the iterator
    rintro e W2 ⟨⟨v, rfl⟩, xs, hs, hi, hl, hd⟩
    have := run_endLoop (P := P) hl (by rw [hrc]; simp)
    exact ⟨none, _, by rw [this, hrc], hdone xs _ (hS _ _ _ hs) (hI _ _ _ hi ((But.refl _ _).put (Or.inl (Or.inr ⟨by omega, by omega⟩)) _)) ((World.putObj_heap_other (by omega)).trans hd)⟩
end Go.Proofs.Yteblpjnkinghoaa.J
/- The program's notes: the iterator over the notes of bytes. -/
set_option linter.unusedVariables false
set_option linter.unusedSimpArgs false
namespace Go.Proofs.Yteblpjnkinghoaa.J
open Go.RowKit Go.Proofs.YteblpjnkinghoaaW.PrintWords Go.Proofs.YteblpjnkinghoaaW.PrintLast Go.Proofs.YteblpjnkinghoaaW.PrintMore
attribute [local go_sem] Oper.semAt_some
/-- What a reading from place i on tells: the notes, how far it came, the last sum, whether a part is left, the error. -/
def decGo (s : ByteArray) : Nat → Int → Int → List S39 × Int × Int × Bool × Int
  | 0, i, sum => ([], i, sum, false, 0)
  | k + 1, i, sum => if i < (s.size : Int) then
      (match peek s i sum with
       | .torn => ([], i, sum, true, 0)
       | .wrong => ([], i, sum, false, 12)
       | .ok n sm fin => (n :: (decGo s k fin sm).1, (decGo s k fin sm).2))
    else ([], i, sum, false, 0)
theorem tail_fin {s e : ByteArray} {n nn : S39} {sum sm i fin : Int} : ∀ {m : Nat}, m ≤ 8 → i ≤ (s.size : Int) → (m = 0 → i + 8 ≤ (s.size : Int)) → tailOut s e n sum i m = .ok nn sm fin → fin = i + 8 ∧ i + 8 ≤ (s.size : Int) := by
  intro m
  induction m with
  | zero => intro _ _ h0 h; simp only [tailOut, Out.ok.injEq] at h; exact ⟨h.2.2.symm, h0 rfl⟩
  | succ m ih =>
    intro hm hi h0 h
    simp only [tailOut] at h
    split at h
    · cases h
    · split at h
      · refine ih (by omega) hi (fun e => ?_) h
        subst e
        rename_i h1 _
        simp at h1
        omega
      · cases h
/-- A note that is read is longer than eight bytes, and lies within. -/
theorem peek_fin {s : ByteArray} {i last : Int} {n : S39} {sm fin : Int} (hi : 0 ≤ i) (h : peek s i last = .ok n sm fin) : i + 16 ≤ fin ∧ fin ≤ (s.size : Int) := by
  unfold peek at h
  split at h
  case isFalse => cases h
  split at h
  case isFalse => cases h
  unfold peek1 at h
  split at h
  case isFalse => cases h
  split at h
  case isFalse => cases h
  unfold peek2 at h
  split at h
  case isFalse => cases h
  split at h
  case isFalse => cases h
  split at h
  case isFalse => cases h
  unfold peek3 at h
  split at h
  case isFalse => cases h
  split at h
  case isFalse => cases h
  unfold peek4 at h
  split at h
  case isFalse => cases h
  split at h
  case isFalse => cases h
  unfold peek5 at h
  split at h
  case isFalse => cases h
  generalize (if bt s (i + 1) = 6 then (40 : Int) else if bt s (i + 5 + bt s (i + 4)) = 1 then 4000 else 0) = most at h
  unfold peek6 at h
  split at h
  case isFalse => cases h
  split at h
  case isFalse => cases h
  split at h
  case isFalse => cases h
  unfold peek7 at h
  split at h
  case isFalse => cases h
  split at h
  case isFalse => cases h
  unfold peek8 at h
  have := tail_fin (Nat.le_refl 8) (by assumption) (by simp) h
  have h4 := bt_range s (i + 4)
  have h6 := bt_range s (i + 6 + bt s (i + 4))
  have h7 := bt_range s (i + 7 + bt s (i + 4))
  omega
theorem Keeps.same {T : Nat → Prop} {A B : World} (h : Keeps T A B) {p : Addr} {v : Value} (hT : T p.block) (hc : A.cell? p = some v) : B.heap[p.block]? = A.heap[p.block]? := by
  unfold World.cell? at hc
  split at hc
  · rename_i cs t f hb
    rw [hb]
    exact h.2 _ _ hT hb rfl
  · cases hc
theorem St.keeps {E : Nat} {used sum : Int} {t : Bool} {e : Int} {T : Nat → Prop} {A B : World} (h : St E used sum t e A) (hk : Keeps T A B) (hT : T E) : St E used sum t e B :=
  have hs := hk.same (p := ⟨E, 0, none⟩) hT h.c0
  ⟨(World.cell?_of_block (w := A) hs).trans h.c0, (World.cell?_of_block (w := A) (a := ⟨E, 1, none⟩) hs).trans h.c1, (World.cell?_of_block (w := A) (a := ⟨E, 2, none⟩) hs).trans h.c2, (World.cell?_of_block (w := A) (a := ⟨E, 3, none⟩) hs).trans h.c3,
   (World.frozen?_of_block (w := A) hs).trans h.z0, (World.frozen?_of_block (w := A) (a := ⟨E, 1, none⟩) hs).trans h.z1, (World.frozen?_of_block (w := A) (a := ⟨E, 2, none⟩) hs).trans h.z2, (World.frozen?_of_block (w := A) (a := ⟨E, 3, none⟩) hs).trans h.z3⟩
theorem Rd.keeps {R : Nat} {s : ByteArray} {i : Int} {T : Nat → Prop} {A B : World} (h : Rd R s i A) (hk : Keeps T A B) (hT : T R) : Rd R s i B :=
  have hs := hk.same (p := ⟨R, 0, none⟩) hT h.str
  ⟨(World.cell?_of_block (w := A) hs).trans h.str, (World.cell?_of_block (w := A) (a := ⟨R, 1, none⟩) hs).trans h.pos, (World.frozen?_of_block (w := A) (a := ⟨R, 1, none⟩) hs).trans h.fz⟩
theorem St.set0 {E : Nat} {used sum : Int} {t : Bool} {e : Int} {w : World} (h : St E used sum t e w) (x : Int) : St E x sum t e (w.setCell ⟨E, 0, none⟩ (.int .i64 x)) :=
  ⟨World.cell?_setCell_same _ _ _ h.c0, (World.cell?_setCell_other _ _ _ _ (by simp)).trans h.c1, (World.cell?_setCell_other _ _ _ _ (by simp)).trans h.c2, (World.cell?_setCell_other _ _ _ _ (by simp)).trans h.c3,
   (World.frozen?_setCell _ _ _ _).trans h.z0, (World.frozen?_setCell _ _ _ _).trans h.z1, (World.frozen?_setCell _ _ _ _).trans h.z2, (World.frozen?_setCell _ _ _ _).trans h.z3⟩
/-- What the iterator has told when it has ended. -/
def Told (E : Nat) (s : ByteArray) (sum0 : Int) (xs : List S39) (W : World) : Prop :=
  ∃ u sm tn e, St E u sm tn e W ∧ decGo s (s.size + 1) 0 sum0 = (xs, u, sm, tn, e)
set_option maxHeartbeats 8000000 in
set_option maxRecDepth 100000 in
theorem notes1_seq (n : Nat) (Bs Be E : Nat) (s : ByteArray) (sum0 : Int) (hb : (s.size : Int) ≤ 100000) (w : World) (hBs : w.heap[Bs]? = some (.cells #[.string s] 9 (0, 0))) (hBe : w.heap[Be]? = some (.cells #[.pointer (some ⟨E, 0, none⟩)] 83 (0, 0)))
    (hE : St E 0 sum0 false 0 w) (hsE : ¬ Bs = E) (heE : ¬ Be = E) :
    Seq Fence.wide n Try.prog 72 #[.pointer (some ⟨Bs, 0, none⟩), .pointer (some ⟨Be, 0, none⟩)] (fun n : S39 => #[.agg #[.int .i64 n.f0, .int .i64 n.f1, .string n.f2, .bool n.f3, .string n.f4]]) E (fun k => k = Bs ∨ k = Be ∨ k = E ∨ k = w.heap.size + 2) (Told E s sum0) (s.size + 1) w := by
  intro l J W hbw hszw hJ hY h0
  rw [hszw] at hJ hY
  replace hBs := (hbw.block _ (blk_lt hBs)).trans hBs
  replace hBe := (hbw.block _ (blk_lt hBe)).trans hBe
  have hEl := cell_lt hE.c0
  have hsl := blk_lt hBs
  have hel := blk_lt hBe
  refine callsIn_of_wp Try.func72 rfl trivial ?_ rfl
  simp only [Try.ntmps72, List.size_toArray, List.length_cons, List.length_nil, Nat.reduceAdd, Nat.reduceSub, Array.replicate_succ, Array.replicate_zero, List.push_toArray, List.append_toArray, List.nil_append, List.cons_append]
  have hc1 : W.cell? ⟨Bs, 0, none⟩ = some (.string s) := (blk_cell hBs 0).trans rfl
  have hBsR : ¬ Bs = w.heap.size + 2 := by omega
  have hBeR : ¬ Be = w.heap.size + 2 := by omega
  have hER : ¬ E = w.heap.size + 2 := by simp at hEl; omega
  have hR0 : (W.alloc (.cells #[.string s, .int .i64 0] 97)).heap[w.heap.size + 2]? = some (.cells #[.string s, .int .i64 0] 97 (0, 0)) := by rw [← hszw]; exact heap_alloc_new _ _
  have hb1 : Below W.heap.size W (W.alloc (.cells #[.string s, .int .i64 0] 97)) := (Below.refl _ _).alloc (Nat.le_refl _) _
  have hE1 : St E 0 sum0 false 0 (W.alloc (.cells #[.string s, .int .i64 0] 97)) := (hE.past (But.of_below (S := fun _ => False) hbw) (fun h => h)).past (But.of_below (S := fun _ => False) hb1) (fun h => h)
  have hJ1 := hJ _ _ _ h0 (But.of_below hb1)
  have hBs1 := (hb1.block _ hsl).trans hBs
  have hBe1 := (hb1.block _ hel).trans hBe
  have hR1 : Rd (w.heap.size + 2) s 0 (W.alloc (.cells #[.string s, .int .i64 0] 97)) := ⟨(blk_cell hR0 0).trans rfl, (blk_cell hR0 1).trans rfl, blk_frozen hR0 1⟩
  gi_wp2
  generalize W.alloc (.cells #[.string s, .int .i64 0] 97) = W1 at hE1 hJ1 hBs1 hBe1 hR1 ⊢
  clear hb1 hR0 hBs hBe hsl hel hc1 h0 hbw hszw hE hEl
  generalize w.heap.size + 2 = R at hJ hY hBsR hBeR hER hR1 ⊢
  obtain ⟨D0, hD0⟩ : ∃ D, decGo s (s.size + 1) 0 sum0 = D := ⟨_, rfl⟩
  gi_loopg [6] (s.size + 1) (fun kq v6 wk => ∃ (pre : List S39) (i sum : Int), 0 ≤ i ∧ i ≤ (s.size : Int) ∧ Aside0 (s.size < kq + i.toNat) ∧ Aside0 (pre.length ≤ i.toNat) ∧ Aside0 (Rd R s i wk) ∧ Aside0 (St E i sum false 0 wk) ∧ J pre wk ∧ Aside0 (wk.heap[Bs]? = some (.cells #[.string s] 9 (0, 0))) ∧ Aside0 (wk.heap[Be]? = some (.cells #[.pointer (some ⟨E, 0, none⟩)] 83 (0, 0))) ∧
      Aside0 (D0 = (pre ++ (decGo s kq i sum).1, (decGo s kq i sum).2)))
  case atStart => exact ⟨[], 0, sum0, Int.le_refl _, by omega, ⟨by simp⟩, ⟨by simp⟩, ⟨hR1⟩, ⟨hE1⟩, hJ1, ⟨hBs1⟩, ⟨hBe1⟩, ⟨by rw [← hD0]; simp⟩⟩
  case round =>
    obtain ⟨pre, i, sum, hi, hi2, ⟨hk⟩, ⟨hpl⟩, ⟨hrd⟩, ⟨hst⟩, hj, ⟨hbs⟩, ⟨hbe⟩, ⟨hdec⟩⟩ := hrel
    have hcs : wr.cell? ⟨Bs, 0, none⟩ = some (.string s) := (blk_cell hbs 0).trans rfl
    have hce : wr.cell? ⟨Be, 0, none⟩ = some (.pointer (some ⟨E, 0, none⟩)) := (blk_cell hbe 0).trans rfl
    have hcp := hrd.pos
    cases gk with
    | zero => exact absurd hk (by omega)
    | succ k1 =>
      have hqs := fun p : Past wr => Past.cell hcs p
      have hqp := fun p : Past wr => Past.cell hcp p
      unfold decGo at hdec
      by_cases hlt : i < (s.size : Int)
      · have hd : decide (i < (s.size : Int)) = true := decide_eq_true hlt
        gi_wp2
        refine wpIn_wide.2 ?_
        refine wp_region_past (by kernel_rfl) (by kernel_rfl) ?_
        repeat (go_big_quiet_step (fail))
        refine wpQuiet_nil ?_
        rintro _ ⟨p, rfl⟩
        have hb1 := p.h
        have hrd1 := hrd.past hb1
        have hst1 := hst.past (But.of_below (S := fun _ => False) hb1) (fun h => h)
        have hj1 := hJ _ _ _ hj (But.of_below hb1)
        have hbs1 := (hb1.block _ (blk_lt hbs)).trans hbs
        have hbe1 := (hb1.block _ (blk_lt hbe)).trans hbe
        clear hce
        have hce : p.W.cell? ⟨Be, 0, none⟩ = some (.pointer (some ⟨E, 0, none⟩)) := (blk_cell hbe1 0).trans rfl
        generalize p.W = w2 at hb1 hrd1 hst1 hj1 hbs1 hbe1 hce ⊢
        clear hb1 hrd hst hj hbs hbe hqs hqp hcs hcp p wr
        rw [if_pos hlt] at hdec
        gi_upto_region 2 with (fail)
        cases ho : peek s i sum with
        | torn =>
          rw [ho] at hdec
          gi_wp2_with (refine ⟨trivial, fun h => (by cases h), ?_⟩; gi_at_call 73; refine callsIn_wide.2 (Calls.mono (next_torn R E s i i sum _ hrd1 hst1 hER hi hb hi2 ho) ?_); rintro e w3 ⟨rfl, hst3, hb3⟩)
          repeat (refine And.intro (fun f h => nomatch h) ?_; gi_wp2)
          have hb4 : But (fun b => b = E ∨ b = R) w2 (w3.alloc nil39) := (hb3.mono fun k _ hk => hk.symm).alloc _
          have hst4 := hst3.past (But.of_below (S := fun _ => False) ((Below.refl _ _).alloc (Nat.le_refl _) nil39)) (fun h => h)
          refine bodyPost_ret (results_none rfl _ _ _) rfl ?_
          exact ⟨⟨_, rfl⟩, pre, ⟨i, sum, true, 0, hst4, by rw [hD0, hdec]; simp⟩, hJ _ _ _ hj1 hb4⟩
        | wrong =>
          rw [ho] at hdec
          gi_wp2_with (refine ⟨trivial, fun h => (by cases h), ?_⟩; gi_at_call 73; refine callsIn_wide.2 (Calls.mono (next_wrong R E s i i sum _ hrd1 hst1 hER hi hb hi2 ho) ?_); rintro e w3 ⟨rfl, hst3, hb3⟩)
          repeat (refine And.intro (fun f h => nomatch h) ?_; gi_wp2)
          have hb4 : But (fun b => b = E ∨ b = R) w2 (w3.alloc nil39) := (hb3.mono fun k _ hk => hk.symm).alloc _
          have hst4 := hst3.past (But.of_below (S := fun _ => False) ((Below.refl _ _).alloc (Nat.le_refl _) nil39)) (fun h => h)
          refine bodyPost_ret (results_none rfl _ _ _) rfl ?_
          exact ⟨⟨_, rfl⟩, pre, ⟨i, sum, false, 12, hst4, by rw [hD0, hdec]; simp⟩, hJ _ _ _ hj1 hb4⟩
        | ok nt sm fin =>
          rw [ho] at hdec
          gi_upto_region 3 with (refine ⟨trivial, fun h => (by cases h), ?_⟩; gi_at_call 73; refine callsIn_wide.2 (Calls.mono (next_ok R E s i i sum _ hrd1 hst1 hER hi hb hi2 nt sm fin ho) ?_); rintro e w3 ⟨rfl, hst3, hrd3, hb3⟩)
          obtain ⟨f0, f1, f2, f3, f4⟩ := nt
          have hal := (Below.refl w3.heap.size w3).alloc (Nat.le_refl _) (.cells #[.int .i64 f0, .int .i64 f1, .string f2, .bool f3, .string f4] 39)
          have hb4 : But (fun b => b = E ∨ b = R) w2 (w3.alloc (.cells #[.int .i64 f0, .int .i64 f1, .string f2, .bool f3, .string f4] 39)) := (hb3.mono fun k _ hk => hk.symm).alloc _
          have hst4 := hst3.past (But.of_below (S := fun _ => False) hal) (fun h => h)
          have hrd4 := hrd3.past hal
          have hj4 := hJ _ _ _ hj1 hb4
          have hbs4 := (hb4.block _ (blk_lt hbs1) (fun h => by rcases h with h | h; exact hsE h; exact hBsR h)).trans hbs1
          have hbe4 := (hb4.block _ (blk_lt hbe1) (fun h => by rcases h with h | h; exact heE h; exact hBeR h)).trans hbe1
          have hnb := heap_alloc_new w3 (.cells #[.int .i64 f0, .int .i64 f1, .string f2, .bool f3, .string f4] 39)
          have hn0 := (blk_cell hnb 0).trans rfl
          have hn1 := (blk_cell hnb 1).trans rfl
          have hn2 := (blk_cell hnb 2).trans rfl
          have hn3 := (blk_cell hnb 3).trans rfl
          have hn4 := (blk_cell hnb 4).trans rfl
          generalize w3.heap.size = Nn, w3.alloc (.cells #[.int .i64 f0, .int .i64 f1, .string f2, .bool f3, .string f4] 39) = w4 at hst4 hrd4 hj4 hbs4 hbe4 hn0 hn1 hn2 hn3 hn4 ⊢
          obtain ⟨fn, tmps, assign, body, hy, hR⟩ := hY pre ⟨f0, f1, f2, f3, f4⟩ w4 hj4 (by omega) hrd4.lt
          clear hb4 hal hnb hb3 hst3 hrd3 hst1 hrd1 hj1 hbs1 hbe1 hce hj4
          gi_wp2
          refine ⟨fun h => (by cases h), hR.mono ?_⟩
          clear hR hy hn0 hn1 hn2 hn3 hn4
          rintro e w5 ⟨rfl, hj5, hk5⟩
          have hst5 : St E i sm false 0 w5 := hst4.keeps hk5 (Or.inr (Or.inr (Or.inl rfl)))
          have hrd5 : Rd R s fin w5 := hrd4.keeps hk5 (Or.inr (Or.inr (Or.inr rfl)))
          have hbs5 : w5.heap[Bs]? = some (.cells #[.string s] 9 (0, 0)) := hk5.2 _ _ (Or.inl rfl) hbs4 rfl
          have hbe5 : w5.heap[Be]? = some (.cells #[.pointer (some ⟨E, 0, none⟩)] 83 (0, 0)) := hk5.2 _ _ (Or.inr (Or.inl rfl)) hbe4 rfl
          have hce : w5.cell? ⟨Be, 0, none⟩ = some (.pointer (some ⟨E, 0, none⟩)) := (blk_cell hbe5 0).trans rfl
          have hcp := hrd5.pos
          have hz0 := hst5.z0
          have hc0 := hst5.c0
          gi_wp2
          refine wpIn_wide.2 ?_
          go_still_tail 7, (by kernel_rfl)
          change wpList _ _ _ _ _ w5.drew
          have hb6 : But (fun b => b = E ∨ b = R) w5 w5.drew := (But.refl _ _).drew
          have hst6 := hst5.past (But.of_below (S := fun _ => False) (below_drew (Below.refl w5.heap.size w5))) (fun h => h)
          have hrd6 := hrd5.past (below_drew (Below.refl w5.heap.size w5))
          have hbs6 : w5.drew.heap[Bs]? = some (.cells #[.string s] 9 (0, 0)) := hbs5
          have hbe6 : w5.drew.heap[Be]? = some (.cells #[.pointer (some ⟨E, 0, none⟩)] 83 (0, 0)) := hbe5
          clear hz0 hc0 hce hcp hst5 hrd5 hbs5 hbe5 hk5 hst4 hrd4 hbs4 hbe4
          generalize w5.drew = w6 at hb6 hst6 hrd6 hbs6 hbe6 ⊢
          have hz0 := hst6.z0
          have hc0 := hst6.c0
          go_wp2
          gi_wp2
          gi_roundg k1
          case measure => omega
          case rel =>
            have hf := peek_fin hi ho
            refine ⟨pre ++ [⟨f0, f1, f2, f3, f4⟩], fin, sm, by omega, hf.2, ⟨by omega⟩, ⟨by simp only [List.length_append, List.length_cons, List.length_nil]; omega⟩, ⟨hrd6.far (p := ⟨E, 0, none⟩) hER _⟩, ⟨hst6.set0 fin⟩, hJ _ _ _ hj5 (hb6.set (S := fun b => b = E ∨ b = R) (p := ⟨E, 0, none⟩) (Or.inl rfl) _), ⟨?_⟩, ⟨?_⟩, ⟨?_⟩⟩
            · rw [Below.heap_setCell _ _ _ _ hsE]
              exact hbs6
            · rw [Below.heap_setCell _ _ _ _ heE]
              exact hbe6
            · rw [hdec]
              simp
      · have hd : decide (i < (s.size : Int)) = false := decide_eq_false hlt
        rw [if_neg hlt] at hdec
        gi_wp2
        refine wpIn_wide.2 ?_
        refine wp_region_past (by kernel_rfl) (by kernel_rfl) ?_
        repeat (go_big_quiet_step (fail))
        refine wpQuiet_nil ?_
        rintro _ ⟨p, rfl⟩
        have hb1 := p.h
        have hst1 := hst.past (But.of_below (S := fun _ => False) hb1) (fun h => h)
        have hj1 := hJ _ _ _ hj (But.of_below hb1)
        generalize p.W = w2 at hb1 hst1 hj1 ⊢
        gi_wp2
        go_end0
        exact ⟨⟨_, rfl⟩, pre, ⟨i, sum, false, 0, hst1, by rw [hD0, hdec]; simp⟩, hj1⟩
end Go.Proofs.Yteblpjnkinghoaa.J
/- The program's Decode. -/
set_option linter.unusedVariables false
set_option linter.unusedSimpArgs false
namespace Go.Proofs.Yteblpjnkinghoaa.J
open Go.RowKit Go.Proofs.YteblpjnkinghoaaW.PrintWords Go.Proofs.YteblpjnkinghoaaW.PrintLast Go.Proofs.YteblpjnkinghoaaW.PrintMore
attribute [local go_sem] Oper.semAt_some
theorem notes_calls (s : ByteArray) (E : Nat) (w : World) : Calls Try.prog 54 #[.string s, .pointer (some ⟨E, 0, none⟩)] w fun e w' =>
    e = .returned (.func (.func 72) #[] #[.pointer (some ⟨w.heap.size, 0, none⟩), .pointer (some ⟨w.heap.size + 1, 0, none⟩)]) ∧ w' = (w.alloc (.cells #[.string s] 9)).alloc (.cells #[.pointer (some ⟨E, 0, none⟩)] 83) := by
  have hmf : ∀ (fn : Fn) (first cap : Array Value) (w : World), (Instr.makeFunc fn first cap).run Try.prog w = .ok (.func fn first cap) w := fun _ _ _ _ => rfl
  go_enter Try.func54, Try.ntmps54
  go_wp2
  go_ret
  exact ⟨rfl, rfl⟩
end Go.Proofs.Yteblpjnkinghoaa.J
/- What the reference's look answers, its half-filled notes at early ends too; and that it is peek at the rest of the bytes. -/
set_option linter.unusedVariables false
set_option linter.unusedSimpArgs false
namespace Go.Proofs.Yteblpjnkinghoaa.J
open Go.RowKit Go.Proofs.YteblpjnkinghoaaW.PrintWords Go.Proofs.YteblpjnkinghoaaW.PrintLast Go.Proofs.YteblpjnkinghoaaW.PrintMore
abbrev LookR := S39 × Int × Int × Bool
def nil8 : ByteArray := ⟨#[]⟩
def lookT (s e : ByteArray) (n : S39) (sum : Int) (i : Int) : Nat → LookR
  | 0 => (n, i + 8, sum, false)
  | m + 1 => if i + (8 - (m + 1 : Nat)) = (s.size : Int) then (n, 0, 0, true) else if bt s (i + (8 - (m + 1 : Nat))) = bt e (8 - (m + 1 : Nat)) then lookT s e n sum i m else (n, 0, 0, false)
def look8 (s : ByteArray) (last kd u k has t : Int) : LookR :=
  lookT s (eightS (sumF last (s.extract 0 (8 + k + t).toNat))) ⟨kd, u, s.extract 5 (5 + k).toNat, decide (has = 1), s.extract (8 + k).toNat (8 + k + t).toNat⟩ (sumF last (s.extract 0 (8 + k + t).toNat)) (8 + k + t) 8
def look7 (s : ByteArray) (last kd u k has most t : Int) : LookR :=
  if t ≤ most ∧ (kd = 6 → 0 < t) then (if (s.size : Int) < 8 + k + t then (⟨kd, u, s.extract 5 (5 + k).toNat, decide (has = 1), nil8⟩, 0, 0, true) else look8 s last kd u k has t)
  else (⟨kd, u, s.extract 5 (5 + k).toNat, decide (has = 1), nil8⟩, 0, 0, false)
def look6 (s : ByteArray) (last kd u k has most : Int) : LookR :=
  if (s.size : Int) = 6 + k then (⟨kd, u, s.extract 5 (5 + k).toNat, decide (has = 1), nil8⟩, 0, 0, true)
  else if bt s (6 + k) * 256 ≤ most then
    (if (s.size : Int) = 7 + k then (⟨kd, u, s.extract 5 (5 + k).toNat, decide (has = 1), nil8⟩, 0, 0, true) else look7 s last kd u k has most (bt s (6 + k) * 256 + bt s (7 + k)))
  else (⟨kd, u, s.extract 5 (5 + k).toNat, decide (has = 1), nil8⟩, 0, 0, false)
def look5 (s : ByteArray) (last kd u k has : Int) : LookR :=
  if has = 0 ∨ has = 1 ∧ (kd = 2 ∨ kd = 3) then look6 s last kd u k has (if kd = 6 then 40 else if has = 1 then 4000 else 0) else (⟨kd, u, s.extract 5 (5 + k).toNat, false, nil8⟩, 0, 0, false)
def look4 (s : ByteArray) (last kd u k : Int) : LookR :=
  if k ≤ 40 ∧ ((kd = 2 ∨ kd = 3) ↔ 0 < k) then (if (s.size : Int) < 6 + k then (⟨kd, u, nil8, false, nil8⟩, 0, 0, true) else look5 s last kd u k (bt s (5 + k))) else (⟨kd, u, nil8, false, nil8⟩, 0, 0, false)
def look3 (s : ByteArray) (last kd u : Int) : LookR :=
  if u ≤ 1000 ∧ (kd = 6 ↔ u = 0) then (if (s.size : Int) = 4 then (⟨kd, u, nil8, false, nil8⟩, 0, 0, true) else look4 s last kd u (bt s 4)) else (⟨kd, u, nil8, false, nil8⟩, 0, 0, false)
def look2 (s : ByteArray) (last kd hg : Int) : LookR :=
  if hg ≤ 3 ∧ (kd = 6 → hg = 0) then (if (s.size : Int) = 3 then (⟨kd, 0, nil8, false, nil8⟩, 0, 0, true) else look3 s last kd (hg * 256 + bt s 3)) else (⟨kd, 0, nil8, false, nil8⟩, 0, 0, false)
def look1 (s : ByteArray) (last kd : Int) : LookR :=
  if 1 ≤ kd ∧ kd ≤ 7 then (if (s.size : Int) = 2 then (⟨kd, 0, nil8, false, nil8⟩, 0, 0, true) else look2 s last kd (bt s 2)) else (⟨kd, 0, nil8, false, nil8⟩, 0, 0, false)
def lookF (s : ByteArray) (last : Int) : LookR :=
  if (s.size : Int) = 0 then (⟨0, 0, nil8, false, nil8⟩, 0, 0, true)
  else if bt s 0 = 74 then (if (s.size : Int) = 1 then (⟨0, 0, nil8, false, nil8⟩, 0, 0, true) else look1 s last (bt s 1))
  else (⟨0, 0, nil8, false, nil8⟩, 0, 0, false)
/-- What peek says of the bytes from i on, look says of these bytes alone. -/
def Same (o : Out) (i : Int) (r : LookR) : Prop :=
  match o with
  | .torn => ∃ n, r = (n, 0, 0, true)
  | .wrong => ∃ n, r = (n, 0, 0, false)
  | .ok n sm fin => r = (n, fin - i, sm, false)
theorem same_tail (s t e : ByteArray) (n : S39) (sum i q : Int) (hsz : (t.size : Int) = s.size - i) (hbt : ∀ j : Int, 0 ≤ j → j < t.size → bt t j = bt s (i + j)) (hq : 0 ≤ q) (hq2 : q ≤ t.size) :
    ∀ m : Nat, m ≤ 8 → q + (8 - m) ≤ (t.size : Int) → Same (tailOut s e n sum (i + q) m) i (lookT t e n sum q m) := by
  intro m
  induction m with
  | zero =>
    intro _ _
    simp only [tailOut, lookT, Same]
    congr 2
    omega
  | succ m ih =>
    intro hm hle
    simp only [tailOut, lookT]
    by_cases h1 : q + (8 - (m + 1 : Nat)) = (t.size : Int)
    · rw [if_pos h1, if_pos (by omega)]
      exact ⟨_, rfl⟩
    · rw [if_neg h1, if_neg (by omega), hbt _ (by omega) (by omega), show i + (q + (8 - ((m + 1 : Nat) : Int))) = i + q + (8 - ((m + 1 : Nat) : Int)) by omega]
      split
      · exact ih (by omega) (by omega)
      · exact ⟨_, rfl⟩
/-- t is what is left of s from i on. -/
structure Rest (s t : ByteArray) (i : Int) : Prop where
  i0 : 0 ≤ i
  sz : (t.size : Int) = s.size - i
  bt_ : ∀ j : Int, 0 ≤ j → j < t.size → bt t j = bt s (i + j)
  ex : ∀ a b : Int, 0 ≤ a → a ≤ b → b ≤ t.size → t.extract a.toNat b.toNat = s.extract (i + a).toNat (i + b).toNat
theorem same8 {s t : ByteArray} {i : Int} (h : Rest s t i) (last kd u k has tt : Int) (hk : 0 ≤ k) (ht : 0 ≤ tt) (hle : 8 + k + tt ≤ t.size) : Same (peek8 s i last kd u k has tt) i (look8 t last kd u k has tt) := by
  unfold peek8 look8
  have e1 := h.ex 0 (8 + k + tt) (by omega) (by omega) hle
  have e2 := h.ex 5 (5 + k) (by omega) (by omega) (by omega)
  have e3 := h.ex (8 + k) (8 + k + tt) (by omega) (by omega) hle
  rw [show (0 : Int).toNat = 0 from rfl, show i + 0 = i by omega, show i + (8 + k + tt) = i + 8 + k + tt by omega] at e1
  rw [show (5 : Int).toNat = 5 from rfl, show i + (5 + k) = i + 5 + k by omega] at e2
  rw [show i + (8 + k) = i + 8 + k by omega, show i + (8 + k + tt) = i + 8 + k + tt by omega] at e3
  rw [e1, e2, e3, show i + 8 + k + tt = i + (8 + k + tt) by omega]
  exact same_tail s t _ _ _ i (8 + k + tt) h.sz h.bt_ (by omega) hle 8 (Nat.le_refl _) (by omega)
theorem same7 {s t : ByteArray} {i : Int} (h : Rest s t i) (last kd u k has most tt : Int) (hk : 0 ≤ k) (ht : 0 ≤ tt) : Same (peek7 s i last kd u k has most tt) i (look7 t last kd u k has most tt) := by
  have := h.sz
  unfold peek7 look7
  split
  · by_cases c : i + 8 + k + tt ≤ (s.size : Int)
    · rw [if_pos c, if_neg (show ¬ (t.size : Int) < 8 + k + tt by omega)]
      exact same8 h last kd u k has tt hk ht (by omega)
    · rw [if_neg c, if_pos (by omega)]
      exact ⟨_, rfl⟩
  · exact ⟨_, rfl⟩
theorem same6 {s t : ByteArray} {i : Int} (h : Rest s t i) (last kd u k has most : Int) (hk : 0 ≤ k) (hle : 6 + k ≤ t.size) : Same (peek6 s i last kd u k has most) i (look6 t last kd u k has most) := by
  have := h.sz
  unfold peek6 look6
  by_cases c : i + 6 + k < (s.size : Int)
  · rw [if_pos c, if_neg (show ¬ (t.size : Int) = 6 + k by omega), h.bt_ (6 + k) (by omega) (by omega), show i + (6 + k) = i + 6 + k by omega]
    have r6 := bt_range s (i + 6 + k)
    by_cases c2 : bt s (i + 6 + k) ≤ most / 256
    · rw [if_pos c2, if_pos (show bt s (i + 6 + k) * 256 ≤ most by omega)]
      by_cases c3 : i + 7 + k < (s.size : Int)
      · rw [if_pos c3, if_neg (show ¬ (t.size : Int) = 7 + k by omega), h.bt_ (7 + k) (by omega) (by omega), show i + (7 + k) = i + 7 + k by omega]
        have r7 := bt_range s (i + 7 + k)
        exact same7 h last kd u k has most _ hk (by omega)
      · rw [if_neg c3, if_pos (by omega)]
        exact ⟨_, rfl⟩
    · rw [if_neg c2, if_neg (show ¬ bt s (i + 6 + k) * 256 ≤ most by omega)]
      exact ⟨_, rfl⟩
  · rw [if_neg c, if_pos (by omega)]
    exact ⟨_, rfl⟩
theorem same5 {s t : ByteArray} {i : Int} (h : Rest s t i) (last kd u k has : Int) (hk : 0 ≤ k) (hle : 6 + k ≤ t.size) : Same (peek5 s i last kd u k has) i (look5 t last kd u k has) := by
  unfold peek5 look5
  split
  · exact same6 h last kd u k has _ hk hle
  · exact ⟨_, rfl⟩
theorem same4 {s t : ByteArray} {i : Int} (h : Rest s t i) (last kd u k : Int) (hk : 0 ≤ k) : Same (peek4 s i last kd u k) i (look4 t last kd u k) := by
  have := h.sz
  unfold peek4 look4
  split
  · by_cases c : i + 5 + k < (s.size : Int)
    · rw [if_pos c, if_neg (show ¬ (t.size : Int) < 6 + k by omega), h.bt_ (5 + k) (by omega) (by omega), show i + (5 + k) = i + 5 + k by omega]
      exact same5 h last kd u k _ hk (by omega)
    · rw [if_neg c, if_pos (by omega)]
      exact ⟨_, rfl⟩
  · exact ⟨_, rfl⟩
theorem same3 {s t : ByteArray} {i : Int} (h : Rest s t i) (last kd u : Int) (hle : 4 ≤ (t.size : Int)) : Same (peek3 s i last kd u) i (look3 t last kd u) := by
  have := h.sz
  unfold peek3 look3
  split
  · by_cases c : i + 4 < (s.size : Int)
    · rw [if_pos c, if_neg (show ¬ (t.size : Int) = 4 by omega), h.bt_ 4 (by omega) (by omega)]
      exact same4 h last kd u _ (bt_range s (i + 4)).1
    · rw [if_neg c, if_pos (by omega)]
      exact ⟨_, rfl⟩
  · exact ⟨_, rfl⟩
/-- look at the rest is peek. -/
theorem look_peek {s t : ByteArray} {i : Int} (h : Rest s t i) (last : Int) : Same (peek s i last) i (lookF t last) := by
  have hs := h.sz
  have h0 := h.i0
  unfold peek lookF
  by_cases c : i < (s.size : Int)
  · have b0 := h.bt_ 0 (by omega) (by omega)
    rw [show i + 0 = i by omega] at b0
    rw [if_pos c, if_neg (show ¬ (t.size : Int) = 0 by omega), b0]
    split
    · unfold peek1
      by_cases c1 : i + 1 < (s.size : Int)
      · rw [if_pos c1, if_neg (show ¬ (t.size : Int) = 1 by omega), h.bt_ 1 (by omega) (by omega)]
        unfold look1
        split
        · unfold peek2
          by_cases c2 : i + 2 < (s.size : Int)
          · rw [if_pos c2, if_neg (show ¬ (t.size : Int) = 2 by omega), h.bt_ 2 (by omega) (by omega)]
            unfold look2
            split
            · by_cases c3 : i + 3 < (s.size : Int)
              · rw [if_pos c3, if_neg (show ¬ (t.size : Int) = 3 by omega), h.bt_ 3 (by omega) (by omega)]
                exact same3 h last _ _ (by omega)
              · rw [if_neg c3, if_pos (show (t.size : Int) = 3 by omega)]
                exact ⟨_, rfl⟩
            · exact ⟨_, rfl⟩
          · rw [if_neg c2, if_pos (show (t.size : Int) = 2 by omega)]
            exact ⟨_, rfl⟩
        · exact ⟨_, rfl⟩
      · rw [if_neg c1, if_pos (show (t.size : Int) = 1 by omega)]
        exact ⟨_, rfl⟩
    · exact ⟨_, rfl⟩
  · rw [if_neg c, if_pos (by omega)]
    exact ⟨_, rfl⟩
end Go.Proofs.Yteblpjnkinghoaa.J
/- The reference's look: its contract (under way). -/
set_option linter.unusedVariables false
set_option linter.unusedSimpArgs false
namespace Go.Proofs.Yteblpjnkinghoaa.J
open Go.RowKit Go.Proofs.YteblpjnkinghoaaW.PrintWords Go.Proofs.YteblpjnkinghoaaW.PrintLast Go.Proofs.YteblpjnkinghoaaW.PrintMore
theorem sl (s : ByteArray) (a b : Int) (h0 : 0 ≤ a) (h1 : a ≤ b) (h2 : b ≤ (s.size : Int)) (W : World) : (Instr.slice 9 (.string s) (some (.int .i64 a)) (some (.int .i64 b)) none).run Try.prog W = .ok (.string (s.extract a.toNat b.toNat)) W := by
  rw [run_slice_string_if _ _ _ _ _ _ _ Try.underlying9, if_pos ⟨by omega, h2⟩, if_pos ⟨h0, h1⟩]
theorem lay39_below {B : Nat} {a w : World} {Z : Nat} (h : Below B a w) (hZ : B ≤ Z) (n : S39) : Below B a (lay39 w Z n) :=
  ((((h.setCell (p := ⟨Z, 0, none⟩) hZ _).setCell (p := ⟨Z, 1, none⟩) hZ _).setCell (p := ⟨Z, 2, none⟩) hZ _).setCell (p := ⟨Z, 3, none⟩) hZ _).setCell (p := ⟨Z, 4, none⟩) hZ _
/-- One of look's many ends: the note is loaded and laid back, the other results are handed back. -/
theorem look_end (T : Array Value) (w0 w : World) (Z : Nat) (n : S39) (sz sm : Int) (tn : Bool) (h4 : T.getD 4 undef = .pointer (some ⟨Z, 0, none⟩)) (h5 : T.getD 5 undef = .int .i64 sz) (h6 : T.getD 6 undef = .int .u64 sm) (h7 : T.getD 7 undef = .bool tn)
    (hb : w.heap[Z]? = some (.cells #[.int .i64 n.f0, .int .i64 n.f1, .string n.f2, .bool n.f3, .string n.f4] 39 (0, 0))) (hB : Below w0.heap.size w0 w) (hZ : w0.heap.size ≤ Z) (r : LookR) (hr : r = (n, sz, sm, tn)) :
    bodyPost Try.prog Try.f55 (fun e w' => e = .returned (.tuple #[.agg #[.int .i64 r.1.f0, .int .i64 r.1.f1, .string r.1.f2, .bool r.1.f3, .string r.1.f4], .int .i64 r.2.1, .int .u64 r.2.2.1, .bool r.2.2.2]) ∧ Below w0.heap.size w0 w') Exit.ret { tmps := T, defers := [] } (lay39 w Z n) := by
  subst hr
  have hres := results_list (P := Try.prog) (fn := Try.f55) (tmps := T) (w := lay39 w Z n) (rs := [.cell 4 39, .tmp 5, .tmp 6, .tmp 7]) rfl (by simp) (.cell Z 39 #[.int .i64 n.f0, .int .i64 n.f1, .string n.f2, .bool n.f3, .string n.f4] (0, 0) _ h4 (lay39_blk hb n) Try.underlying39 rfl (by kernel_rfl) (.tmp (.tmp (.tmp .nil))))
  rw [h5, h6, h7] at hres
  exact bodyPost_ret hres rfl ⟨rfl, lay39_below hB hZ n⟩
/-- The note's cells, for the walk. -/
theorem nt_of_blk {Z : Nat} {n : S39} {w : World} (h : w.heap[Z]? = some (.cells #[.int .i64 n.f0, .int .i64 n.f1, .string n.f2, .bool n.f3, .string n.f4] 39 (0, 0))) : Nt Z n.f0 n.f1 n.f2 n.f3 n.f4 w := Nt.new h
set_option maxHeartbeats 8000000 in
set_option maxRecDepth 100000 in
theorem look_calls (s : ByteArray) (last : Int) (hs : s.size ≤ 1000000) (w : World) : Calls Try.prog 55 #[.string s, .int .u64 last] w fun e w' =>
    e = .returned (.tuple #[.agg #[.int .i64 (lookF s last).1.f0, .int .i64 (lookF s last).1.f1, .string (lookF s last).1.f2, .bool (lookF s last).1.f3, .string (lookF s last).1.f4], .int .i64 (lookF s last).2.1, .int .u64 (lookF s last).2.2.1, .bool (lookF s last).2.2.2]) ∧ Below w.heap.size w w' := by
  obtain ⟨r, hr⟩ : ∃ r, lookF s last = r := ⟨_, rfl⟩
  rw [hr]
  have hB : Below w.heap.size w (w.alloc nil39) := (Below.refl _ _).alloc (Nat.le_refl _) _
  have hb : (w.alloc nil39).heap[w.heap.size]? = some nil39 := heap_alloc_new _ _
  have hZ : w.heap.size ≤ w.heap.size := Nat.le_refl _
  unfold lookF at hr
  go_enter Try.func55, Try.ntmps55
  go_upto_region 1 with (fail)
  generalize w.alloc nil39 = w1 at hB hb ⊢
  have hnt := nt_of_blk (n := ⟨0, 0, nil8, false, nil8⟩) hb
  have hn0 := hnt.c0
  have hn1 := hnt.c1
  have hn2 := hnt.c2
  have hn3 := hnt.c3
  have hn4 := hnt.c4
  have hy0 := hnt.z0
  have hy1 := hnt.z1
  have hy2 := hnt.z2
  have hy3 := hnt.z3
  have hy4 := hnt.z4
  by_cases c0 : (s.size : Int) = 0
  · rw [if_pos c0] at hr
    have d0 : ((s.size : Int) == 0) = true := beq_iff_eq.mpr c0
    go_wp2
    exact look_end _ w w1 w.heap.size ⟨0, 0, nil8, false, nil8⟩ 0 0 true (by rfl) (by rfl) (by rfl) (by rfl) hb hB hZ r hr.symm
  rw [if_neg c0] at hr
  have d0 : ((s.size : Int) == 0) = false := beq_eq_false_iff_ne.mpr c0
  go_upto_region 3 with (fail)
  have q7 : (0 < s.size) = True := eq_true (by omega)
  have qi7 : (0 < (s.size : Int)) = True := eq_true (by omega)
  have hx7 : ∀ h : 0 < s.size, ((s[0]'h).toNat : Int) = bt s 0 := bt_at s 0
  by_cases c1 : bt s 0 = 74
  rotate_left
  · rw [if_neg c1] at hr
    have d1 : (bt s 0 != 74) = true := by simp [c1]
    go_wp2
    exact look_end _ w w1 w.heap.size ⟨0, 0, nil8, false, nil8⟩ 0 0 false (by rfl) (by rfl) (by rfl) (by rfl) hb hB hZ r hr.symm
  rw [if_pos c1] at hr
  have d1 : (bt s 0 != 74) = false := by simp [c1]
  go_upto_region 5 with (fail)
  clear q7 qi7 hx7 d0 d1
  by_cases c2 : (s.size : Int) = 1
  · rw [if_pos c2] at hr
    have d2 : ((s.size : Int) == 1) = true := beq_iff_eq.mpr c2
    go_wp2
    exact look_end _ w w1 w.heap.size ⟨0, 0, nil8, false, nil8⟩ 0 0 true (by rfl) (by rfl) (by rfl) (by rfl) hb hB hZ r hr.symm
  rw [if_neg c2] at hr
  have d2 : ((s.size : Int) == 1) = false := beq_eq_false_iff_ne.mpr c2
  go_upto_region 7 with (fail)
  clear d2
  have q7 : (1 < s.size) = True := eq_true (by omega)
  have qi7 : (1 < (s.size : Int)) = True := eq_true (by omega)
  have hx7 : ∀ h : 1 < s.size, ((s[1]'h).toNat : Int) = bt s 1 := bt_at s 1
  have hkr := bt_range s 1
  go_upto_region 8 with (fail)
  clear q7 qi7 hx7
  generalize bt s 1 = kd at hr hkr ⊢
  have hb2 : (w1.setCell ⟨w.heap.size, 0, none⟩ (.int .i64 kd)).heap[w.heap.size]? = some (.cells #[.int .i64 kd, .int .i64 0, .string nil8, .bool false, .string nil8] 39 (0, 0)) := blk_put hb 0 _ rfl
  replace hB := hB.setCell (p := ⟨w.heap.size, 0, none⟩) hZ (.int .i64 kd)
  clear hn0 hn1 hn2 hn3 hn4 hy0 hy1 hy2 hy3 hy4 hnt hb
  have hb := hb2
  clear hb2
  generalize w1.setCell ⟨w.heap.size, 0, none⟩ (.int .i64 kd) = w2 at hb hB ⊢
  have hnt := nt_of_blk (n := ⟨kd, 0, nil8, false, nil8⟩) hb
  have hn0 := hnt.c0
  have hn1 := hnt.c1
  have hn2 := hnt.c2
  have hn3 := hnt.c3
  have hn4 := hnt.c4
  have hy0 := hnt.z0
  have hy1 := hnt.z1
  have hy2 := hnt.z2
  have hy3 := hnt.z3
  have hy4 := hnt.z4
  unfold look1 at hr
  by_cases c3 : 1 ≤ kd ∧ kd ≤ 7
  rotate_left
  · rw [if_neg c3] at hr
    by_cases c4 : kd < 1
    · have d3 : decide (kd < 1) = true := decide_eq_true c4
      go_wp2
      exact look_end _ w w2 w.heap.size ⟨kd, 0, nil8, false, nil8⟩ 0 0 false (by rfl) (by rfl) (by rfl) (by rfl) hb hB hZ r hr.symm
    · have d3 : decide (kd < 1) = false := decide_eq_false c4
      have d4 : decide (7 < kd) = true := decide_eq_true (by omega)
      go_wp2
      exact look_end _ w w2 w.heap.size ⟨kd, 0, nil8, false, nil8⟩ 0 0 false (by rfl) (by rfl) (by rfl) (by rfl) hb hB hZ r hr.symm
  rw [if_pos c3] at hr
  have d3 : decide (kd < 1) = false := decide_eq_false (by omega)
  have d4 : decide (7 < kd) = false := decide_eq_false (by omega)
  go_upto_region 10 with (fail)
  clear d3 d4
  by_cases c5 : (s.size : Int) = 2
  · rw [if_pos c5] at hr
    have d5 : ((s.size : Int) == 2) = true := beq_iff_eq.mpr c5
    go_wp2
    exact look_end _ w w2 w.heap.size ⟨kd, 0, nil8, false, nil8⟩ 0 0 true (by rfl) (by rfl) (by rfl) (by rfl) hb hB hZ r hr.symm
  rw [if_neg c5] at hr
  have d5 : ((s.size : Int) == 2) = false := beq_eq_false_iff_ne.mpr c5
  go_upto_region 12 with (fail)
  clear d5
  have q7 : (2 < s.size) = True := eq_true (by omega)
  have qi7 : (2 < (s.size : Int)) = True := eq_true (by omega)
  have hx7 : ∀ h : 2 < s.size, ((s[2]'h).toNat : Int) = bt s 2 := bt_at s 2
  have hgr := bt_range s 2
  unfold look2 at hr
  by_cases c6 : bt s 2 ≤ 3 ∧ (kd = 6 → bt s 2 = 0)
  rotate_left
  · rw [if_neg c6] at hr
    by_cases c7 : 3 < bt s 2
    · have d7 : decide (3 < bt s 2) = true := decide_eq_true c7
      go_wp2
      exact look_end _ w w2 w.heap.size ⟨kd, 0, nil8, false, nil8⟩ 0 0 false (by rfl) (by rfl) (by rfl) (by rfl) hb hB hZ r hr.symm
    · have d7 : decide (3 < bt s 2) = false := decide_eq_false c7
      have d8 : (kd == 6) = true := beq_iff_eq.mpr (by omega)
      have d9 : (bt s 2 != 0) = true := bne_iff_ne.mpr (by omega)
      have c8 : kd = 6 := by omega
      clear c8
      go_wp2
      exact look_end _ w w2 w.heap.size ⟨kd, 0, nil8, false, nil8⟩ 0 0 false (by rfl) (by rfl) (by rfl) (by rfl) hb hB hZ r hr.symm
  rw [if_pos c6] at hr
  have d7 : decide (3 < bt s 2) = false := decide_eq_false (by omega)
  go_cut [56] from 44 to 56 (fun v56 wc => v56 = .bool false ∧ wc = w2)
  case first =>
    by_cases c7 : kd = 6
    · have d8 : (kd == 6) = true := beq_iff_eq.mpr c7
      have d9 : (bt s 2 != 0) = false := by rw [c6.2 c7]; rfl
      clear c7
      go_wp2
      go_meet
      case rel => exact ⟨rfl, rfl⟩
    · have d8 : (kd == 6) = false := beq_eq_false_iff_ne.mpr c7
      clear c7
      go_wp2
      go_meet
      case rel => exact ⟨rfl, rfl⟩
  obtain ⟨rfl, rfl⟩ := hcut
  clear d7 q7 qi7 hx7
  by_cases c9 : (s.size : Int) = 3
  · rw [if_pos c9] at hr
    have d9 : ((s.size : Int) == 3) = true := beq_iff_eq.mpr c9
    go_wp2
    exact look_end _ w wc w.heap.size ⟨kd, 0, nil8, false, nil8⟩ 0 0 true (by rfl) (by rfl) (by rfl) (by rfl) hb hB hZ r hr.symm
  rw [if_neg c9] at hr
  have d9 : ((s.size : Int) == 3) = false := beq_eq_false_iff_ne.mpr c9
  go_upto_region 16 with (fail)
  clear d9
  have q2 : (2 < s.size) = True := eq_true (by omega)
  have qi2 : (2 < (s.size : Int)) = True := eq_true (by omega)
  have hx2 : ∀ h : 2 < s.size, ((s[2]'h).toNat : Int) = bt s 2 := bt_at s 2
  have q3 : (3 < s.size) = True := eq_true (by omega)
  have qi3 : (3 < (s.size : Int)) = True := eq_true (by omega)
  have hx3 : ∀ h : 3 < s.size, ((s[3]'h).toNat : Int) = bt s 3 := bt_at s 3
  have hlr := bt_range s 3
  go_still_tail 9, (by kernel_rfl)
  change wpList _ _ _ _ _ wc.drew
  have hb7 : wc.drew.heap[w.heap.size]? = some (.cells #[.int .i64 kd, .int .i64 0, .string nil8, .bool false, .string nil8] 39 (0, 0)) := hb
  have hB7 := below_drew hB
  clear hn0 hn1 hn2 hn3 hn4 hy0 hy1 hy2 hy3 hy4 hnt hb hB q2 qi2 hx2 q3 qi3 hx3
  generalize wc.drew = w7 at hb7 hB7 ⊢
  have hnt := nt_of_blk (n := ⟨kd, 0, nil8, false, nil8⟩) hb7
  have hn1 := hnt.c1
  have hy1 := hnt.z1
  go_upto_region 17 with (fail)
  have hur : 0 ≤ bt s 2 * 256 + bt s 3 ∧ bt s 2 * 256 + bt s 3 ≤ 1023 := by omega
  rw [show 256 * bt s 2 + bt s 3 = bt s 2 * 256 + bt s 3 by omega]
  clear hn1 hy1 hnt c6 hgr hlr
  generalize bt s 2 * 256 + bt s 3 = u at hr hur ⊢
  have hb : (w7.setCell ⟨w.heap.size, 1, none⟩ (.int .i64 u)).heap[w.heap.size]? = some (.cells #[.int .i64 kd, .int .i64 u, .string nil8, .bool false, .string nil8] 39 (0, 0)) := blk_put hb7 1 _ rfl
  have hB := hB7.setCell (p := ⟨w.heap.size, 1, none⟩) hZ (.int .i64 u)
  clear hb7 hB7
  generalize w7.setCell ⟨w.heap.size, 1, none⟩ (.int .i64 u) = w8 at hb hB ⊢
  have hnt := nt_of_blk (n := ⟨kd, u, nil8, false, nil8⟩) hb
  have hn0 := hnt.c0
  have hy0 := hnt.z0
  have hn1 := hnt.c1
  have hy1 := hnt.z1
  have hn2 := hnt.c2
  have hy2 := hnt.z2
  have hn3 := hnt.c3
  have hy3 := hnt.z3
  have hn4 := hnt.c4
  have hy4 := hnt.z4
  unfold look3 at hr
  by_cases c10 : u ≤ 1000 ∧ (kd = 6 ↔ u = 0)
  rotate_left
  · rw [if_neg c10] at hr
    by_cases c11 : kd = 6
    · have d1 : (kd == 6) = true := beq_iff_eq.mpr c11
      have d2 : (u == 0) = false := beq_eq_false_iff_ne.mpr (by omega)
      clear c11
      go_wp2
      exact look_end _ w w8 w.heap.size ⟨kd, u, nil8, false, nil8⟩ 0 0 false (by rfl) (by rfl) (by rfl) (by rfl) hb hB hZ r hr.symm
    · have d1 : (kd == 6) = false := beq_eq_false_iff_ne.mpr c11
      by_cases c12 : u = 0
      · have d2 : (u == 0) = true := beq_iff_eq.mpr c12
        clear c11 c12
        go_wp2
        exact look_end _ w w8 w.heap.size ⟨kd, u, nil8, false, nil8⟩ 0 0 false (by rfl) (by rfl) (by rfl) (by rfl) hb hB hZ r hr.symm
      · have d2 : (u == 0) = false := beq_eq_false_iff_ne.mpr c12
        have d3 : decide (1000 < u) = true := decide_eq_true (by omega)
        clear c11 c12
        go_wp2
        exact look_end _ w w8 w.heap.size ⟨kd, u, nil8, false, nil8⟩ 0 0 false (by rfl) (by rfl) (by rfl) (by rfl) hb hB hZ r hr.symm
  rw [if_pos c10] at hr
  go_cut [82] from 71 to 82 (fun v82 wc => v82 = .bool false ∧ wc = w8)
  case first =>
    have d3 : decide (1000 < u) = false := decide_eq_false (by omega)
    by_cases c11 : kd = 6
    · have d1 : (kd == 6) = true := beq_iff_eq.mpr c11
      have d2 : (u == 0) = true := beq_iff_eq.mpr (c10.2.1 c11)
      clear c11
      go_wp2
      go_meet
      case rel => exact ⟨rfl, rfl⟩
    · have d1 : (kd == 6) = false := beq_eq_false_iff_ne.mpr c11
      have d2 : (u == 0) = false := beq_eq_false_iff_ne.mpr (by omega)
      clear c11
      go_wp2
      go_meet
      case rel => exact ⟨rfl, rfl⟩
  obtain ⟨rfl, rfl⟩ := hcut
  by_cases c13 : (s.size : Int) = 4
  · rw [if_pos c13] at hr
    have d9 : ((s.size : Int) == 4) = true := beq_iff_eq.mpr c13
    go_wp2
    exact look_end _ w wc w.heap.size ⟨kd, u, nil8, false, nil8⟩ 0 0 true (by rfl) (by rfl) (by rfl) (by rfl) hb hB hZ r hr.symm
  rw [if_neg c13] at hr
  have d9 : ((s.size : Int) == 4) = false := beq_eq_false_iff_ne.mpr c13
  obtain ⟨P, hP⟩ : ∃ P : Bool, P = decide (kd = 2 ∨ kd = 3) := ⟨_, rfl⟩
  go_upto_region 21 with (fail)
  clear d9
  go_cut [8] from 88 to 95 (fun v8 wn => v8 = .bool P ∧ wn = wc)
  case first =>
    by_cases c6 : kd = 2
    · have d6 : (kd == 2) = true := by simp [c6]
      have hp : Aside0 (P = true) := ⟨by simp [hP, c6]⟩
      clear c6
      go_wp2
      go_meet
      case rel => exact ⟨by rw [hp.out], rfl⟩
    · have d6 : (kd == 2) = false := by simp [c6]
      have hp : Aside0 (P = (kd == 3)) := ⟨by simp [hP, c6]; rfl⟩
      clear c6
      go_wp2
      go_meet
      case rel => exact ⟨by rw [hp.out], rfl⟩
  replace hP := Aside0.mk hP
  obtain ⟨rfl, rfl⟩ := hcut
  have hx4 := ix s 4 (by omega) (by omega)
  have hkr4 := bt_range s 4
  go_upto_region 23 with (fail)
  clear hx4
  generalize bt s 4 = k at hr hkr4 ⊢
  unfold look4 at hr
  by_cases c14 : k ≤ 40 ∧ ((kd = 2 ∨ kd = 3) ↔ 0 < k)
  rotate_left
  · rw [if_neg c14] at hr
    have hPo := hP.out
    cases P
    · have hne : ¬ (kd = 2 ∨ kd = 3) := of_decide_eq_false hPo.symm
      have d1 : (k != 0) = true := bne_iff_ne.mpr (by omega)
      clear hne hPo
      go_wp2
      exact look_end _ w wc w.heap.size ⟨kd, u, nil8, false, nil8⟩ 0 0 false (by rfl) (by rfl) (by rfl) (by rfl) hb hB hZ r hr.symm
    · have hne : kd = 2 ∨ kd = 3 := of_decide_eq_true hPo.symm
      by_cases c15 : k < 1
      · have d1 : decide (k < 1) = true := decide_eq_true c15
        clear hne hPo c15
        go_wp2
        exact look_end _ w wc w.heap.size ⟨kd, u, nil8, false, nil8⟩ 0 0 false (by rfl) (by rfl) (by rfl) (by rfl) hb hB hZ r hr.symm
      · have d1 : decide (k < 1) = false := decide_eq_false c15
        have d2 : decide (40 < k) = true := decide_eq_true (by omega)
        clear hne hPo c15
        go_wp2
        exact look_end _ w wc w.heap.size ⟨kd, u, nil8, false, nil8⟩ 0 0 false (by rfl) (by rfl) (by rfl) (by rfl) hb hB hZ r hr.symm
  rw [if_pos c14] at hr
  go_cut [8, 115] from 99 to 115 (fun v8 v115 wn => v8 = .bool P ∧ v115 = .bool false ∧ wn = wc)
  case first =>
    have hPo := hP.out
    cases P
    · have hne : ¬ (kd = 2 ∨ kd = 3) := of_decide_eq_false hPo.symm
      have d1 : (k != 0) = false := bne_eq_false_iff_eq.mpr (by omega)
      clear hne hPo
      go_wp2
      go_meet
      case rel => exact ⟨rfl, rfl, rfl⟩
    · have hne : kd = 2 ∨ kd = 3 := of_decide_eq_true hPo.symm
      have d1 : decide (k < 1) = false := decide_eq_false (by omega)
      have d2 : decide (40 < k) = false := decide_eq_false (by omega)
      clear hne hPo
      go_wp2
      go_meet
      case rel => exact ⟨rfl, rfl, rfl⟩
  obtain ⟨rfl, rfl, rfl⟩ := hcut
  by_cases c15 : (s.size : Int) < 6 + k
  · rw [if_pos c15] at hr
    have d9 : decide ((s.size : Int) < 5 + k + 1) = true := decide_eq_true (by omega)
    go_wp2
    exact look_end _ w wc w.heap.size ⟨kd, u, nil8, false, nil8⟩ 0 0 true (by rfl) (by rfl) (by rfl) (by rfl) hb hB hZ r hr.symm
  rw [if_neg c15] at hr
  have d9 : decide ((s.size : Int) < 5 + k + 1) = false := decide_eq_false (by omega)
  go_upto_region 27 with (fail)
  clear d9
  obtain ⟨key, hkey⟩ : ∃ key, s.extract (5 : Int).toNat (5 + k).toNat = key := ⟨_, rfl⟩
  have hkey2 : s.extract 5 (5 + k).toNat = key := hkey
  have hsl := sl s 5 (5 + k) (by omega) (by omega) (by omega)
  rw [hkey] at hsl
  go_upto_region 28 with (fail)
  clear hsl
  have hb2 : (wc.setCell ⟨w.heap.size, 2, none⟩ (.string key)).heap[w.heap.size]? = some (.cells #[.int .i64 kd, .int .i64 u, .string key, .bool false, .string nil8] 39 (0, 0)) := blk_put hb 2 _ rfl
  replace hB := hB.setCell (p := ⟨w.heap.size, 2, none⟩) hZ (.string key)
  clear hn0 hn1 hn2 hn3 hn4 hy0 hy1 hy2 hy3 hy4 hnt
  clear hb
  have hb := hb2
  clear hb2
  generalize wc.setCell ⟨w.heap.size, 2, none⟩ (.string key) = w9 at hb hB ⊢
  have hnt := nt_of_blk (n := ⟨kd, u, key, false, nil8⟩) hb
  have hn0 := hnt.c0
  have hy0 := hnt.z0
  have hn1 := hnt.c1
  have hy1 := hnt.z1
  have hn2 := hnt.c2
  have hy2 := hnt.z2
  have hn3 := hnt.c3
  have hy3 := hnt.z3
  have hn4 := hnt.c4
  have hy4 := hnt.z4
  have hk0 : 0 ≤ k := hkr4.1
  have hk1 : k ≤ 40 := c14.1
  go_upto_region 29 with (fail)
  unfold look5 at hr
  rw [hkey2] at hr
  have hhr := bt_range s (5 + k)
  have hx5 := ix s (5 + k) (by omega) (by omega)
  generalize bt s (5 + k) = has at hr hhr hx5 ⊢
  by_cases c16 : has = 0 ∨ has = 1 ∧ (kd = 2 ∨ kd = 3)
  rotate_left
  · rw [if_neg c16] at hr
    by_cases c17 : 1 < has
    · have d1 : decide (1 < has) = true := decide_eq_true c17
      clear c17
      go_wp2
      exact look_end _ w w9 w.heap.size ⟨kd, u, key, false, nil8⟩ 0 0 false (by rfl) (by rfl) (by rfl) (by rfl) hb hB hZ r hr.symm
    · have d1 : decide (1 < has) = false := decide_eq_false c17
      have d2 : (has == 1) = true := beq_iff_eq.mpr (by omega)
      have hPo := hP.out
      have hne : ¬ (kd = 2 ∨ kd = 3) := fun h => c16 (by omega)
      have d3 : P = false := by rw [hPo]; exact decide_eq_false hne
      clear c17 hPo hne
      subst d3
      go_wp2
      exact look_end _ w w9 w.heap.size ⟨kd, u, key, false, nil8⟩ 0 0 false (by rfl) (by rfl) (by rfl) (by rfl) hb hB hZ r hr.symm
  rw [if_pos c16] at hr
  go_cut [8, 144] from 131 to 144 (fun v8 v144 wn => v8 = .bool P ∧ v144 = .bool false ∧ wn = w9)
  case first =>
    have d1 : decide (1 < has) = false := decide_eq_false (by omega)
    by_cases c17 : has = 1
    · have d2 : (has == 1) = true := beq_iff_eq.mpr c17
      have hPo := hP.out
      have d3 : P = true := by rw [hPo]; exact decide_eq_true (by omega)
      clear c17 hPo
      subst d3
      go_wp2
      go_meet
      case rel => exact ⟨rfl, rfl, rfl⟩
    · have d2 : (has == 1) = false := beq_eq_false_iff_ne.mpr c17
      clear c17
      go_wp2
      go_meet
      case rel => exact ⟨rfl, rfl, rfl⟩
  obtain ⟨rfl, rfl, rfl⟩ := hcut
  obtain ⟨H, hH⟩ : ∃ H, (has == 1) = H := ⟨_, rfl⟩
  have hHd : decide (has = 1) = H := by rw [← hH]; rfl
  go_upto_region 32 with (fail)
  have hb2 : (wc.setCell ⟨w.heap.size, 3, none⟩ (.bool H)).heap[w.heap.size]? = some (.cells #[.int .i64 kd, .int .i64 u, .string key, .bool H, .string nil8] 39 (0, 0)) := blk_put hb 3 _ rfl
  replace hB := hB.setCell (p := ⟨w.heap.size, 3, none⟩) hZ (.bool H)
  clear hn0 hn1 hn2 hn3 hn4 hy0 hy1 hy2 hy3 hy4 hnt
  clear hb hx5
  have hb := hb2
  clear hb2
  replace hH := Aside0.mk hH
  generalize wc.setCell ⟨w.heap.size, 3, none⟩ (.bool H) = w10 at hb hB ⊢
  have hnt := nt_of_blk (n := ⟨kd, u, key, H, nil8⟩) hb
  have hn0 := hnt.c0
  have hy0 := hnt.z0
  have hn1 := hnt.c1
  have hy1 := hnt.z1
  have hn2 := hnt.c2
  have hy2 := hnt.z2
  have hn3 := hnt.c3
  have hy3 := hnt.z3
  have hn4 := hnt.c4
  have hy4 := hnt.z4
  obtain ⟨most, hmost⟩ : ∃ m, (if kd = 6 then 40 else if has = 1 then 4000 else (0 : Int)) = m := ⟨_, rfl⟩
  rw [hmost] at hr
  have hmr : 0 ≤ most ∧ most ≤ 4000 := by
    rw [← hmost]
    split
    · omega
    · split <;> omega
  replace hmost := Aside0.mk hmost
  unfold look6 at hr
  rw [hHd, hkey2] at hr
  replace hHd := Aside0.mk hHd
  go_upto_if 152 with (fail)
  obtain ⟨m1, hm1⟩ : ∃ m : Int, (if H = true then 4000 else 0) = m := ⟨_, rfl⟩
  replace hm1 := Aside0.mk hm1
  go_cut [11, 152] from 11 to 11 (fun v11 v152 wn => v11 = .int .i64 m1 ∧ wn = w10)
  case first =>
    have hm := hm1.out
    cases H
    · rw [if_neg (by decide)] at hm
      subst hm
      go_wp2
      go_meet
      case rel => exact ⟨rfl, rfl⟩
    · rw [if_pos rfl] at hm
      subst hm
      go_wp2
      go_meet
      case rel => exact ⟨rfl, rfl⟩
  obtain ⟨rfl, rfl⟩ := hcut
  have hmm : (if kd = 6 then 40 else m1) = most := by
    rw [← hmost.out, ← hm1.out, ← hHd.out]
    simp only [decide_eq_true_eq]
  replace hmm := Aside0.mk hmm
  go_upto_if 155 with (fail)
  go_cut [11, 155] from 11 to 11 (fun v11 v155 wn => v11 = .int .i64 most ∧ wn = wc)
  case first =>
    have hm := hmm.out
    by_cases ck : kd = 6
    · rw [if_pos ck] at hm
      subst hm
      have d1 : (kd == 6) = true := beq_iff_eq.mpr ck
      clear ck
      go_wp2
      go_meet
      case rel => exact ⟨rfl, rfl⟩
    · rw [if_neg ck] at hm
      subst hm
      have d1 : (kd == 6) = false := beq_eq_false_iff_ne.mpr ck
      clear ck
      go_wp2
      go_meet
      case rel => exact ⟨rfl, rfl⟩
  obtain ⟨rfl, rfl⟩ := hcut
  clear hm1 hmm hmost
  by_cases c18 : (s.size : Int) = 6 + k
  · rw [if_pos c18] at hr
    have d9 : ((s.size : Int) == 5 + k + 1) = true := beq_iff_eq.mpr (by omega)
    go_wp2
    exact look_end _ w wc w.heap.size ⟨kd, u, key, H, nil8⟩ 0 0 true (by rfl) (by rfl) (by rfl) (by rfl) hb hB hZ r hr.symm
  rw [if_neg c18] at hr
  have d9 : ((s.size : Int) == 5 + k + 1) = false := beq_eq_false_iff_ne.mpr (by omega)
  go_upto_region 39 with (fail)
  clear d9
  have htgr := bt_range s (6 + k)
  have hx6 : ∀ W, (Instr.index 9 (.string s) (.int .i64 (5 + k + 1))).run Try.prog W = .ok (.int .u8 (bt s (6 + k))) W := fun W => by rw [ix s (5 + k + 1) (by omega) (by omega), show 5 + k + 1 = 6 + k by omega]
  generalize bt s (6 + k) = tg at hr htgr hx6 ⊢
  by_cases c19 : tg * 256 ≤ most
  rotate_left
  · rw [if_neg c19] at hr
    have d1 : decide (most < 256 * tg) = true := decide_eq_true (by omega)
    go_wp2
    exact look_end _ w wc w.heap.size ⟨kd, u, key, H, nil8⟩ 0 0 false (by rfl) (by rfl) (by rfl) (by rfl) hb hB hZ r hr.symm
  rw [if_pos c19] at hr
  have d1 : decide (most < 256 * tg) = false := decide_eq_false (by omega)
  go_upto_region 41 with (fail)
  clear d1
  by_cases c20 : (s.size : Int) = 7 + k
  · rw [if_pos c20] at hr
    have d9 : ((s.size : Int) == 5 + k + 2) = true := beq_iff_eq.mpr (by omega)
    go_wp2
    exact look_end _ w wc w.heap.size ⟨kd, u, key, H, nil8⟩ 0 0 true (by rfl) (by rfl) (by rfl) (by rfl) hb hB hZ r hr.symm
  rw [if_neg c20] at hr
  have d9 : ((s.size : Int) == 5 + k + 2) = false := beq_eq_false_iff_ne.mpr (by omega)
  go_upto_region 43 with (fail)
  clear d9
  have htlr := bt_range s (7 + k)
  have hx7 : ∀ W, (Instr.index 9 (.string s) (.int .i64 (5 + k + 2))).run Try.prog W = .ok (.int .u8 (bt s (7 + k))) W := fun W => by rw [ix s (5 + k + 2) (by omega) (by omega), show 5 + k + 2 = 7 + k by omega]
  generalize bt s (7 + k) = tl at hr htlr hx7 ⊢
  go_region
  have hb2 : wc.drew.heap[w.heap.size]? = some (.cells #[.int .i64 kd, .int .i64 u, .string key, .bool H, .string nil8] 39 (0, 0)) := hb
  have hB2 := below_drew hB
  clear hn0 hn1 hn2 hn3 hn4 hy0 hy1 hy2 hy3 hy4 hnt
  clear hb hB hx6 hx7
  have hb := hb2
  have hB := hB2
  clear hb2 hB2
  generalize wc.drew = w11 at hb hB ⊢
  have hnt := nt_of_blk (n := ⟨kd, u, key, H, nil8⟩) hb
  have hn0 := hnt.c0
  have hy0 := hnt.z0
  have hn1 := hnt.c1
  have hy1 := hnt.z1
  have hn2 := hnt.c2
  have hy2 := hnt.z2
  have hn3 := hnt.c3
  have hy3 := hnt.z3
  have hn4 := hnt.c4
  have hy4 := hnt.z4
  have htr : 0 ≤ tg * 256 + tl ∧ tg * 256 + tl ≤ 65535 := by omega
  rw [show 256 * tg + tl = tg * 256 + tl by omega]
  generalize tg * 256 + tl = t at hr htr ⊢
  clear c19 htgr htlr
  unfold look7 at hr
  rw [hHd.out, hkey2] at hr
  by_cases c21 : t ≤ most ∧ (kd = 6 → 0 < t)
  rotate_left
  · rw [if_neg c21] at hr
    by_cases c22 : t ≤ most
    · have d1 : decide (most < t) = false := decide_eq_false (by omega)
      have d2 : (kd == 6) = true := beq_iff_eq.mpr (by omega)
      have d3 : (t == 0) = true := beq_iff_eq.mpr (by omega)
      clear c22
      go_wp2
      exact look_end _ w w11 w.heap.size ⟨kd, u, key, H, nil8⟩ 0 0 false (by rfl) (by rfl) (by rfl) (by rfl) hb hB hZ r hr.symm
    · have d1 : decide (most < t) = true := decide_eq_true (by omega)
      clear c22
      go_wp2
      exact look_end _ w w11 w.heap.size ⟨kd, u, key, H, nil8⟩ 0 0 false (by rfl) (by rfl) (by rfl) (by rfl) hb hB hZ r hr.symm
  rw [if_pos c21] at hr
  go_upto_region 44 with (fail)
  go_cut [200] from 189 to 200 (fun v200 wn => v200 = .bool false ∧ wn = w11)
  case first =>
    have d1 : decide (most < t) = false := decide_eq_false (by omega)
    by_cases ck : kd = 6
    · have d2 : (kd == 6) = true := beq_iff_eq.mpr ck
      have d3 : (t == 0) = false := beq_eq_false_iff_ne.mpr (by have := c21.2 ck; omega)
      clear ck
      go_wp2
      go_meet
      case rel => exact ⟨rfl, rfl⟩
    · have d2 : (kd == 6) = false := beq_eq_false_iff_ne.mpr ck
      clear ck
      go_wp2
      go_meet
      case rel => exact ⟨rfl, rfl⟩
  obtain ⟨rfl, rfl⟩ := hcut
  by_cases c23 : (s.size : Int) < 8 + k + t
  · rw [if_pos c23] at hr
    have d9 : decide ((s.size : Int) < 5 + k + 3 + t) = true := decide_eq_true (by omega)
    go_wp2
    exact look_end _ w wc w.heap.size ⟨kd, u, key, H, nil8⟩ 0 0 true (by rfl) (by rfl) (by rfl) (by rfl) hb hB hZ r hr.symm
  rw [if_neg c23] at hr
  have d9 : decide ((s.size : Int) < 5 + k + 3 + t) = false := decide_eq_false (by omega)
  go_upto_region 49 with (fail)
  clear d9
  unfold look8 at hr
  obtain ⟨text, htext⟩ : ∃ x, s.extract (8 + k).toNat (8 + k + t).toNat = x := ⟨_, rfl⟩
  rw [hHd.out, hkey2, htext] at hr
  have hsl : ∀ W, (Instr.slice 9 (.string s) (some (.int .i64 (5 + k + 3))) (some (.int .i64 (5 + k + 3 + t))) none).run Try.prog W = .ok (.string text) W := fun W => by
    rw [sl s (5 + k + 3) (5 + k + 3 + t) (by omega) (by omega) (by omega), ← htext, show 5 + k + 3 = 8 + k by omega]
  go_upto_region 50 with (fail)
  clear hsl
  have hb2 : (wc.setCell ⟨w.heap.size, 4, none⟩ (.string text)).heap[w.heap.size]? = some (.cells #[.int .i64 kd, .int .i64 u, .string key, .bool H, .string text] 39 (0, 0)) := blk_put hb 4 _ rfl
  replace hB := hB.setCell (p := ⟨w.heap.size, 4, none⟩) hZ (.string text)
  clear hn0 hn1 hn2 hn3 hn4 hy0 hy1 hy2 hy3 hy4 hnt
  clear hb
  have hb := hb2
  clear hb2
  generalize wc.setCell ⟨w.heap.size, 4, none⟩ (.string text) = w12 at hb hB ⊢
  obtain ⟨body, hbody⟩ : ∃ x, s.extract 0 (8 + k + t).toNat = x := ⟨_, rfl⟩
  rw [hbody] at hr
  have hbs : body.size ≤ 1000000 := by rw [← hbody, ByteArray.size_extract]; omega
  have hsl : ∀ W, (Instr.slice 9 (.string s) none (some (.int .i64 (5 + k + 3 + t))) none).run Try.prog W = .ok (.string body) W := fun W => by
    rw [run_slice_string_to_if _ _ _ _ _ Try.underlying9, if_pos ⟨by omega, by omega⟩, ← hbody, show 5 + k + 3 + t = 8 + k + t by omega]
  go_upto_region 51 with (go_at_call 31; refine (rSum_calls last body hbs _).mono ?_; rintro e w13 ⟨rfl, hb13⟩)
  clear hsl
  generalize sumF last body = sum at hr ⊢
  replace hb := (hb13.block _ (blk_lt hb)).trans hb
  replace hB := below_then hB (hB.size) hb13
  go_upto_region 52 with (go_at_call 63; refine (ringworkref25_eight.calls sum _ _ rfl).mono ?_; rintro e w14 ⟨rfl, hb14⟩)
  have he8 := eightS_size sum
  generalize eightS sum = e8 at hr he8 ⊢
  replace hb := (hb14.block _ (blk_lt hb)).trans hb
  replace hB := below_then hB (hB.size) hb14
  clear hb13 hb14 hbody htext hHd hH hhr c16 hmr c21
  have hq : 8 + k + t = 5 + k + 3 + t := by omega
  rw [hq] at hr c23
  go_wp2
  go_loopg [6, 14] 9 (fun kq v6 v14 wk => ∃ j : Nat, v14 = .int .i64 (j : Int) ∧ v6 = .int .u64 sum ∧ j ≤ 8 ∧ 5 + k + 3 + t + (j : Int) ≤ (s.size : Int) ∧ kq = 8 - j + 1 ∧ Aside0 (lookT s e8 ⟨kd, u, key, H, text⟩ sum (5 + k + 3 + t) (8 - j) = r) ∧ Aside0 (wk.heap[w.heap.size]? = some (.cells #[.int .i64 kd, .int .i64 u, .string key, .bool H, .string text] 39 (0, 0))) ∧ Aside0 (Below w.heap.size w wk))
  case atStart => exact ⟨0, rfl, rfl, by omega, by omega, rfl, ⟨hr⟩, ⟨hb⟩, ⟨hB⟩⟩
  case round =>
    clear hr hb hB
    obtain ⟨j, rfl, rfl, hj, hjs, rfl, ⟨hr⟩, ⟨hb⟩, ⟨hB⟩⟩ := hrel
    have hnt := nt_of_blk (n := ⟨kd, u, key, H, text⟩) hb
    have hn0 := hnt.c0
    have hy0 := hnt.z0
    have hn1 := hnt.c1
    have hy1 := hnt.z1
    have hn2 := hnt.c2
    have hy2 := hnt.z2
    have hn3 := hnt.c3
    have hy3 := hnt.z3
    have hn4 := hnt.c4
    have hy4 := hnt.z4
    by_cases hlt : j < 8
    · have hd : decide ((j : Int) < 8) = true := decide_eq_true (by omega)
      rw [show 8 - j = (8 - (j + 1)) + 1 by omega, lookT, show (8 - ((8 - (j + 1) + 1 : Nat) : Int)) = (j : Int) by omega] at hr
      by_cases c30 : 5 + k + 3 + t + (j : Int) = (s.size : Int)
      · rw [if_pos c30] at hr
        have d1 : (5 + k + 3 + t + (j : Int) == (s.size : Int)) = true := beq_iff_eq.mpr c30
        clear c30
        go_wp2
        exact look_end _ w wr w.heap.size ⟨kd, u, key, H, text⟩ 0 0 true (by rfl) (by rfl) (by rfl) (by rfl) hb hB hZ r hr.symm
      · rw [if_neg c30] at hr
        have d1 : (5 + k + 3 + t + (j : Int) == (s.size : Int)) = false := beq_eq_false_iff_ne.mpr c30
        have c32 : 5 + k + 3 + t + (j : Int) < (s.size : Int) := by omega
        have hx1 := ix s (5 + k + 3 + t + j) (by omega) c32
        have hx2 := ix e8 j (by omega) (by omega)
        go_upto_region 57 with (fail)
        have hb2 : wr.drew.heap[w.heap.size]? = some (.cells #[.int .i64 kd, .int .i64 u, .string key, .bool H, .string text] 39 (0, 0)) := hb
        have hB2 := below_drew hB
        by_cases c31 : bt s (5 + k + 3 + t + j) = bt e8 j
        · rw [if_pos c31] at hr
          have d31 : (bt s (5 + k + 3 + t + (j : Int)) != bt e8 (j : Int)) = false := bne_eq_false_iff_eq.mpr c31
          clear c31
          go_region
          clear hn0 hn1 hn2 hn3 hn4 hy0 hy1 hy2 hy3 hy4 hnt hb hB hx1 hx2
          generalize wr.drew = w15 at hb2 hB2 ⊢
          go_wp2
          go_roundg (8 - (j + 1) + 1)
          case measure => omega
          case rel => exact ⟨j + 1, by push_cast; rfl, rfl, by omega, by push_cast; omega, rfl, ⟨hr⟩, ⟨hb2⟩, ⟨hB2⟩⟩
        · rw [if_neg c31] at hr
          have d31 : (bt s (5 + k + 3 + t + (j : Int)) != bt e8 (j : Int)) = true := bne_iff_ne.mpr c31
          clear c31
          go_region
          clear hn0 hn1 hn2 hn3 hn4 hy0 hy1 hy2 hy3 hy4 hnt hb hB hx1 hx2
          have hb := hb2
          have hB := hB2
          clear hb2 hB2
          generalize wr.drew = w15 at hb hB ⊢
          have hnt := nt_of_blk (n := ⟨kd, u, key, H, text⟩) hb
          have hn0 := hnt.c0
          have hy0 := hnt.z0
          have hn1 := hnt.c1
          have hy1 := hnt.z1
          have hn2 := hnt.c2
          have hy2 := hnt.z2
          have hn3 := hnt.c3
          have hy3 := hnt.z3
          have hn4 := hnt.c4
          have hy4 := hnt.z4
          go_wp2
          exact look_end _ w w15 w.heap.size ⟨kd, u, key, H, text⟩ 0 0 false (by rfl) (by rfl) (by rfl) (by rfl) hb hB hZ r hr.symm
    · have hd : decide ((j : Int) < 8) = false := decide_eq_false (by omega)
      rw [show 8 - j = 0 by omega, lookT] at hr
      go_wp2
      exact look_end _ w wr w.heap.size ⟨kd, u, key, H, text⟩ (5 + k + 3 + t + 8) sum false (by rfl) (by rfl) (by rfl) (by rfl) hb hB hZ r hr.symm
/-- What look answers, in the printed form. -/
def ringworkref25_look.f (a0 : ByteArray) (a1 : Int) : Option (Int × Int × ByteArray × Bool × ByteArray × Int × Int × Bool) :=
  if a0.size ≤ 1000000 then some ((lookF a0 a1).1.f0, (lookF a0 a1).1.f1, (lookF a0 a1).1.f2, (lookF a0 a1).1.f3, (lookF a0 a1).1.f4, (lookF a0 a1).2.1, (lookF a0 a1).2.2.1, (lookF a0 a1).2.2.2) else none
theorem ringworkref25_look.calls (a0 : ByteArray) (a1 : Int) (r1 : Int) (r2 : Int) (r3 : ByteArray) (r4 : Bool) (r5 : ByteArray) (r6 : Int) (r7 : Int) (r8 : Bool) (w : World) (h : ringworkref25_look.f a0 a1 = some (r1, r2, r3, r4, r5, r6, r7, r8)) :
    Calls Try.prog 55 #[.string a0, .int .u64 a1] w fun e w' => e = .returned (.tuple #[.agg #[.int .i64 r1, .int .i64 r2, .string r3, .bool r4, .string r5], .int .i64 r6, .int .u64 r7, .bool r8]) ∧ Below w.heap.size w w' := by
  unfold ringworkref25_look.f at h
  split at h
  · rename_i hs
    simp only [Option.some.injEq, Prod.mk.injEq] at h
    obtain ⟨rfl, rfl, rfl, rfl, rfl, rfl, rfl, rfl⟩ := h
    exact look_calls a0 a1 hs w
  · cases h
end Go.Proofs.Yteblpjnkinghoaa.J
namespace Go.Proofs.Yteblpjnkinghoaa.J
open Go.RowKit Go.Proofs.YteblpjnkinghoaaW.PrintWords Go.Proofs.YteblpjnkinghoaaW.PrintLast Go.Proofs.YteblpjnkinghoaaW.PrintMore
attribute [local go_sem] max2_int min2_int max_two min_two max_three min_three max_four min_four   -- for this text's walks alone
set_option linter.unusedVariables false
set_option linter.unusedSimpArgs false
/-! ### ringworkref25_Decode: function 24 -/
def ringworkref25_Decode.l0 : Nat → ByteArray → List (S39) → Int → Int → Option ((List (S39)) × Int × Bool × Int × Int)
  | 0, _, _, _, _ => none
  | k + 1, x0, x2, x3, x5 => if x3 < (x0.size : Int) then (if 0 ≤ x3 then (if x3 ≤ (x0.size : Int) then ((ringworkref25_look.f (x0.extract (x3 : Int).toNat x0.size) x5).bind fun bt144 => (if bt144.2.2.2.2.2.2.2 = true then (some (x2, x3, true, x5, 0)) else (if bt144.2.2.2.2.2.1 = 0 then (some (x2, x3, false, x5, 12)) else (if x2.length < 2513169434916 then (ringworkref25_Decode.l0 k x0 (x2 ++ [(⟨bt144.1, bt144.2.1, bt144.2.2.1, bt144.2.2.2.1, bt144.2.2.2.2.1⟩ : S39)]) (wrap64 (x3 + bt144.2.2.2.2.2.1)) bt144.2.2.2.2.2.2.1) else (none))))) else (none)) else (none)) else (some (x2, x3, false, x5, 0))
def ringworkref25_Decode.f (k : Nat) (a0 : ByteArray) : Option ((List (S39)) × Int × Bool × Int × Int) := if (a0.size : Int) > 65536 then (some (([] : List (S39)), 0, false, 0, 3)) else (ringworkref25_Decode.l0 k a0 ([] : List (S39)) 0 0)
set_option maxHeartbeats 8000000 in
set_option maxRecDepth 100000 in
theorem ringworkref25_Decode.calls (k : Nat) (a0 : ByteArray) (r1 : List (S39)) (r2 : Int) (r3 : Bool) (r4 : Int) (r5 : Int) (w : World) (h : ringworkref25_Decode.f k a0 = some (r1, r2, r3, r4, r5)) :
    Calls Try.prog 24 #[.string a0] w fun e w' => ∃ v0_ : Value, e = .returned (.tuple #[v0_, .int .i64 r2, .bool r3, .int .u64 r4, .int .i64 r5]) ∧ Kd.R k39 39 w' w.heap.size (fun _ => True) v0_ r1 ∧ Below w.heap.size w w' := by
  have hu39 := Try.underlying39
  have HB := Aside0.mk (Below.refl w.heap.size w)
  have H : (if (a0.size : Int) > 65536 then (some (([] : List (S39)), 0, false, 0, 3)) else (ringworkref25_Decode.l0 k a0 ([] : List (S39)) 0 0)) = some (r1, r2, r3, r4, r5) := h
  clear h
  by_cases c2 : (a0.size : Int) > 65536
  · rw [if_pos c2] at H
    have c2b0 : decide (65536 < (a0.size : Int)) = true := decide_eq_true c2
    have c2b1 : decide (65536 < a0.size) = true := decide_eq_true (by omega)
    clear c2
    simp only [Option.some.injEq, Prod.mk.injEq] at H
    obtain ⟨rfl, rfl, rfl, rfl, rfl⟩ := H
    go_enter Try.func24, Try.ntmps24
    go_wp2
    refine bodyPost_ret (results_list (rs := [.tmp 2, .tmp 3, .tmp 4, .tmp 5, .tmp 6]) rfl (by simp) (.tmp (.tmp (.tmp (.tmp (.tmp .nil)))))) rfl ?_
    exact ⟨_, by first | rfl | (simp [errW_none, errW_some] <;> rfl) | (simp [*, errW_none, errW_some] <;> rfl), by first | exact Kd.R_nil _ _ _ _ _ | exact Kd.N_nil _ _ _ _ _ | exact Kd.V_nil _ _ _ _ _ | exact Kd.Q_nil _ _ _ _ _ | exact Kd.S_nil _ _ _ _ _, by repeat (first | (with_reducible first | exact HB.out | apply below_alloc | apply pw_below_drewN | apply below_drew1) | exact HB.out)⟩
  · rw [if_neg c2] at H
    have c2b0 : decide (65536 < (a0.size : Int)) = false := decide_eq_false c2
    have c2b1 : decide (65536 < a0.size) = false := decide_eq_false (by omega)
    clear c2
    have H' := Aside0.mk H
    clear H
    go_enter Try.func24, Try.ntmps24
    go_wp2
    go_loopg [2, 3, 5] k (fun kq v2 v3 v5 w' => ∃ (x2_1 : List (S39)) (x3_1 : Int) (x5_1 : Int), v3 = .int .i64 x3_1 ∧ v5 = .int .u64 x5_1 ∧ Aside0 (ringworkref25_Decode.l0 kq a0 x2_1 x3_1 x5_1 = some (r1, r2, r3, r4, r5)) ∧ Aside0 (kq ≤ k) ∧ Aside0 (Kd.R k39 39 w' w.heap.size (fun _ => True) v2 x2_1) ∧ Aside0 (Below w.heap.size w w'))
    case atStart => exact ⟨(([] : List (S39))), (0), (0), (by first | rfl | (simp; done) | (simp [*]; done)), (by first | rfl | (simp; done) | (simp [*]; done)), H', ⟨Nat.le_refl _⟩, ⟨by first | exact Kd.R_nil _ _ _ _ _ | exact Kd.N_nil _ _ _ _ _ | exact Kd.V_nil _ _ _ _ _ | exact Kd.Q_nil _ _ _ _ _ | exact Kd.S_nil _ _ _ _ _⟩, ⟨by repeat (first | (with_reducible first | exact HB.out | apply below_alloc | apply pw_below_drewN | apply below_drew1) | exact HB.out)⟩⟩
    case round =>
      clear H'
      try clear c2
      try clear c2b0
      try clear c2b1
      try clear p2
      obtain ⟨x2_1, x3_1, x5_1, rfl, rfl, HA, HK1, HO_2, HB⟩ := hrel
      cases gk with
      | zero => exact absurd HA.out (by simp [ringworkref25_Decode.l0])
      | succ k1 =>
        have H := HA.out
        clear HA
        simp only [ringworkref25_Decode.l0] at H
        by_cases c3 : x3_1 < (a0.size : Int)
        · rw [if_pos c3] at H
          have c3b0 : decide (x3_1 < (a0.size : Int)) = true := decide_eq_true c3
          clear c3
          by_cases c4 : 0 ≤ x3_1
          · rw [if_pos c4] at H
            have c4b0 := eq_true c4
            have c4b1 : decide (0 ≤ x3_1) = true := decide_eq_true c4
            clear c4
            by_cases c5 : x3_1 ≤ (a0.size : Int)
            · rw [if_pos c5] at H
              have c5b0 := eq_true c5
              have c5b1 : decide (x3_1 ≤ (a0.size : Int)) = true := decide_eq_true c5
              clear c5
              replace H := Option.bind_eq_some_iff.mp H
              obtain ⟨⟨t144, t145, t146, t147, t148, t149, t150, t151⟩, A60, H⟩ := H
              replace H : (if t151 = true then (some (x2_1, x3_1, true, x5_1, 0)) else (if t149 = 0 then (some (x2_1, x3_1, false, x5_1, 12)) else (if x2_1.length < 2513169434916 then (ringworkref25_Decode.l0 k1 a0 (x2_1 ++ [(⟨t144, t145, t146, t147, t148⟩ : S39)]) (wrap64 (x3_1 + t149)) t150) else (none)))) = some (r1, r2, r3, r4, r5) := H
              have A6 := Aside0.mk A60
              clear A60
              by_cases c7 : t151 = true
              · subst c7
                have H1 : (some (x2_1, x3_1, true, x5_1, 0)) = some (r1, r2, r3, r4, r5) := by rw [if_pos rfl] at H; exact H
                clear H
                have H := H1
                clear H1
                simp only [Option.some.injEq, Prod.mk.injEq] at H
                obtain ⟨rfl, rfl, rfl, rfl, rfl⟩ := H
                go_wp2_with (first | ((with_reducible refine gate_callee (f := 55) rfl ?_); refine goesL_ (some 23) rfl rfl Try.func55 (by kernel_rfl) rfl #[.string (a0.extract (x3_1 : Int).toNat a0.size), .int .u64 x5_1] rfl (by (try simp only [List.map_toArray, List.map_cons, List.map_nil]); first | done | rfl | (simp only [List.length_drop, List.length_take]; rfl)) ?_; (with_reducible refine (ringworkref25_look.calls (a0.extract (x3_1 : Int).toNat a0.size) x5_1 t144 t145 t146 t147 t148 t149 t150 true _ A6.out).mono ?_); rintro e w8 ⟨rfl, hb⟩; refine ⟨_, rfl, ?_⟩; have n0_ := Aside0.mk (Kd.R_below (by (with_reducible repeat (first | apply Kd.R_alloc | apply Kd.R_drewN | apply Kd.R_drew)); exact HO_2.out) hb); have n1_ := Aside0.mk (below_step (by repeat (first | (with_reducible first | exact HB.out | apply below_alloc | apply pw_below_drewN | apply below_drew1) | exact HB.out)) hb); clear HO_2; clear HB; have HO_2 := n0_; have HB := n1_; clear n0_ n1_; (try clear hb); (try clear hb2); (try clear hk); (try clear hi)) | ((with_reducible refine gate_dst (N := 7) rfl ?_); refine box_event ?hg (N := 7) ?hd (cs := #[.int .i64 0, .int .i64 0, .string (⟨#[]⟩ : ByteArray), .bool false, .string (⟨#[]⟩ : ByteArray)]) (t := 39) ?hr ?_; (case hd => rfl); (case hg => rfl); (case hr => first | (go_simp; done) | (go_simp; rfl)); intro gb152 hg w9 hbox hb; have n0_ := Aside0.mk (Kd.R_below (Kd.R_elderB (by (with_reducible repeat (first | apply Kd.R_alloc | apply Kd.R_drewN | apply Kd.R_drew)); exact HO_2.out) gb152 (Nat.le_of_eq hg.symm)) hb); have n1_ := Aside0.mk (below_step (by repeat (first | (with_reducible first | exact HB.out | apply below_alloc | apply pw_below_drewN | apply below_drew1) | exact HB.out)) hb); have n2_ := Aside0.mk (hbox); have n3_ := Aside0.mk ((by rw [hg]; exact (below_size (by repeat (first | (with_reducible first | exact HB.out | apply below_alloc | apply pw_below_drewN | apply below_drew1) | exact HB.out))) : w.heap.size ≤ gb152)); have n4_ := Aside0.mk ((by rw [hg]; exact (below_size (by repeat (first | (with_reducible first | exact HB.out | apply below_alloc | apply pw_below_drewN | apply below_drew1) | exact HB.out))) : w.heap.size ≤ gb152)); clear HO_2; clear HB; have HO_2 := n0_; have HB := n1_; have BK152 := n2_; have GW152 := n3_; have GE152 := n4_; clear n0_ n1_ n2_ n3_ n4_; clear hb hbox hg; have hcz10_0 : w9.cell? ⟨gb152, 0, none⟩ = some (.int .i64 0) := (blk_cell BK152.out 0).trans rfl; have hcz10_1 : w9.cell? ⟨gb152, 1, none⟩ = some (.int .i64 0) := (blk_cell BK152.out 1).trans rfl; have hcz10_2 : w9.cell? ⟨gb152, 2, none⟩ = some (.string (⟨#[]⟩ : ByteArray)) := (blk_cell BK152.out 2).trans rfl; have hcz10_3 : w9.cell? ⟨gb152, 3, none⟩ = some (.bool false) := (blk_cell BK152.out 3).trans rfl; have hcz10_4 : w9.cell? ⟨gb152, 4, none⟩ = some (.string (⟨#[]⟩ : ByteArray)) := (blk_cell BK152.out 4).trans rfl; have hfz10_0 := blk_frozen BK152.out 0; have hfz10_1 := blk_frozen BK152.out 1; have hfz10_2 := blk_frozen BK152.out 2; have hfz10_3 := blk_frozen BK152.out 3; have hfz10_4 := blk_frozen BK152.out 4))
                refine bodyPost_ret (results_list (rs := [.tmp 2, .tmp 3, .tmp 4, .tmp 5, .tmp 6]) rfl (by simp) (.tmp (.tmp (.tmp (.tmp (.tmp .nil)))))) rfl ?_
                exact ⟨_, by first | rfl | (simp [errW_none, errW_some] <;> rfl) | (simp [*, errW_none, errW_some] <;> rfl), by (with_reducible repeat (first | apply Kd.R_alloc | apply Kd.R_drewN | apply Kd.R_drew)); exact Kd.R_mono (Kd.R_far (p := ⟨gb152, 4, none⟩) (Kd.R_far (p := ⟨gb152, 3, none⟩) (Kd.R_far (p := ⟨gb152, 2, none⟩) (Kd.R_far (p := ⟨gb152, 1, none⟩) (Kd.R_far (p := ⟨gb152, 0, none⟩) (Kd.R_mono HO_2.out (fun k_ hk => (⟨hk, hk.2⟩ : _ ∧ k_ ≠ gb152))) (fun _ hk => hk.2) (.int .i64 t144)) (fun _ hk => hk.2) (.int .i64 t145)) (fun _ hk => hk.2) (.string t146)) (fun _ hk => hk.2) (.bool t147)) (fun _ hk => hk.2) (.string t148)) (fun _ hk => trivial), by repeat (first | (with_reducible first | exact HB.out | apply below_alloc | apply pw_below_drewN | apply below_drew1 | refine below_set ?_ GE152.out) | exact HB.out)⟩
              · replace c7 := Bool.eq_false_iff.mpr c7
                subst c7
                have H1 : (if t149 = 0 then (some (x2_1, x3_1, false, x5_1, 12)) else (if x2_1.length < 2513169434916 then (ringworkref25_Decode.l0 k1 a0 (x2_1 ++ [(⟨t144, t145, t146, t147, t148⟩ : S39)]) (wrap64 (x3_1 + t149)) t150) else (none))) = some (r1, r2, r3, r4, r5) := by rw [if_neg (show ¬ (false = true) by decide)] at H; exact H
                clear H
                have H := H1
                clear H1
                by_cases c11 : t149 = 0
                · rw [if_pos c11] at H
                  have c11b0 : (t149 == 0) = true := beq_iff_eq.mpr c11
                  have c11b1 : (t149 != 0) = false := bne_eq_false_iff_eq.mpr c11
                  clear c11
                  simp only [Option.some.injEq, Prod.mk.injEq] at H
                  obtain ⟨rfl, rfl, rfl, rfl, rfl⟩ := H
                  go_wp2_with (first | ((with_reducible refine gate_callee (f := 55) rfl ?_); refine goesL_ (some 23) rfl rfl Try.func55 (by kernel_rfl) rfl #[.string (a0.extract (x3_1 : Int).toNat a0.size), .int .u64 x5_1] rfl (by (try simp only [List.map_toArray, List.map_cons, List.map_nil]); first | done | rfl | (simp only [List.length_drop, List.length_take]; rfl)) ?_; (with_reducible refine (ringworkref25_look.calls (a0.extract (x3_1 : Int).toNat a0.size) x5_1 t144 t145 t146 t147 t148 t149 t150 false _ A6.out).mono ?_); rintro e w12 ⟨rfl, hb⟩; refine ⟨_, rfl, ?_⟩; have n0_ := Aside0.mk (Kd.R_below (by (with_reducible repeat (first | apply Kd.R_alloc | apply Kd.R_drewN | apply Kd.R_drew)); exact HO_2.out) hb); have n1_ := Aside0.mk (below_step (by repeat (first | (with_reducible first | exact HB.out | apply below_alloc | apply pw_below_drewN | apply below_drew1) | exact HB.out)) hb); clear HO_2; clear HB; have HO_2 := n0_; have HB := n1_; clear n0_ n1_; (try clear hb); (try clear hb2); (try clear hk); (try clear hi)) | ((with_reducible refine gate_dst (N := 7) rfl ?_); refine box_event ?hg (N := 7) ?hd (cs := #[.int .i64 0, .int .i64 0, .string (⟨#[]⟩ : ByteArray), .bool false, .string (⟨#[]⟩ : ByteArray)]) (t := 39) ?hr ?_; (case hd => rfl); (case hg => rfl); (case hr => first | (go_simp; done) | (go_simp; rfl)); intro gb152 hg w13 hbox hb; have n0_ := Aside0.mk (Kd.R_below (Kd.R_elderB (by (with_reducible repeat (first | apply Kd.R_alloc | apply Kd.R_drewN | apply Kd.R_drew)); exact HO_2.out) gb152 (Nat.le_of_eq hg.symm)) hb); have n1_ := Aside0.mk (below_step (by repeat (first | (with_reducible first | exact HB.out | apply below_alloc | apply pw_below_drewN | apply below_drew1) | exact HB.out)) hb); have n2_ := Aside0.mk (hbox); have n3_ := Aside0.mk ((by rw [hg]; exact (below_size (by repeat (first | (with_reducible first | exact HB.out | apply below_alloc | apply pw_below_drewN | apply below_drew1) | exact HB.out))) : w.heap.size ≤ gb152)); have n4_ := Aside0.mk ((by rw [hg]; exact (below_size (by repeat (first | (with_reducible first | exact HB.out | apply below_alloc | apply pw_below_drewN | apply below_drew1) | exact HB.out))) : w.heap.size ≤ gb152)); clear HO_2; clear HB; have HO_2 := n0_; have HB := n1_; have BK152 := n2_; have GW152 := n3_; have GE152 := n4_; clear n0_ n1_ n2_ n3_ n4_; clear hb hbox hg; have hcz14_0 : w13.cell? ⟨gb152, 0, none⟩ = some (.int .i64 0) := (blk_cell BK152.out 0).trans rfl; have hcz14_1 : w13.cell? ⟨gb152, 1, none⟩ = some (.int .i64 0) := (blk_cell BK152.out 1).trans rfl; have hcz14_2 : w13.cell? ⟨gb152, 2, none⟩ = some (.string (⟨#[]⟩ : ByteArray)) := (blk_cell BK152.out 2).trans rfl; have hcz14_3 : w13.cell? ⟨gb152, 3, none⟩ = some (.bool false) := (blk_cell BK152.out 3).trans rfl; have hcz14_4 : w13.cell? ⟨gb152, 4, none⟩ = some (.string (⟨#[]⟩ : ByteArray)) := (blk_cell BK152.out 4).trans rfl; have hfz14_0 := blk_frozen BK152.out 0; have hfz14_1 := blk_frozen BK152.out 1; have hfz14_2 := blk_frozen BK152.out 2; have hfz14_3 := blk_frozen BK152.out 3; have hfz14_4 := blk_frozen BK152.out 4))
                  refine bodyPost_ret (results_list (rs := [.tmp 2, .tmp 3, .tmp 4, .tmp 5, .tmp 6]) rfl (by simp) (.tmp (.tmp (.tmp (.tmp (.tmp .nil)))))) rfl ?_
                  exact ⟨_, by first | rfl | (simp [errW_none, errW_some] <;> rfl) | (simp [*, errW_none, errW_some] <;> rfl), by (with_reducible repeat (first | apply Kd.R_alloc | apply Kd.R_drewN | apply Kd.R_drew)); exact Kd.R_mono (Kd.R_far (p := ⟨gb152, 4, none⟩) (Kd.R_far (p := ⟨gb152, 3, none⟩) (Kd.R_far (p := ⟨gb152, 2, none⟩) (Kd.R_far (p := ⟨gb152, 1, none⟩) (Kd.R_far (p := ⟨gb152, 0, none⟩) (Kd.R_mono HO_2.out (fun k_ hk => (⟨hk, hk.2⟩ : _ ∧ k_ ≠ gb152))) (fun _ hk => hk.2) (.int .i64 t144)) (fun _ hk => hk.2) (.int .i64 t145)) (fun _ hk => hk.2) (.string t146)) (fun _ hk => hk.2) (.bool t147)) (fun _ hk => hk.2) (.string t148)) (fun _ hk => trivial), by repeat (first | (with_reducible first | exact HB.out | apply below_alloc | apply pw_below_drewN | apply below_drew1 | refine below_set ?_ GE152.out) | exact HB.out)⟩
                · rw [if_neg c11] at H
                  have c11b0 : (t149 == 0) = false := beq_eq_false_iff_ne.mpr c11
                  have c11b1 : (t149 != 0) = true := bne_iff_ne.mpr c11
                  by_cases c15 : x2_1.length < 2513169434916
                  · rw [if_pos c15] at H
                    have LMc15 := Aside0.mk c15
                    clear c15
                    obtain ⟨y153, hy153⟩ : ∃ y_ : List (S39), y_ = (x2_1 ++ [(⟨t144, t145, t146, t147, t148⟩ : S39)]) := ⟨_, rfl⟩
                    replace H : (ringworkref25_Decode.l0 k1 a0 y153 (wrap64 (x3_1 + t149)) t150) = some (r1, r2, r3, r4, r5) := by first | (rw [hy153]; with_reducible exact H) | (have H2_ := (Option.bind_some _ _).symm.trans H; rw [hy153]; with_reducible exact H2_) | (have H2_ := (Option.bind_some _ _).symm.trans H; with_reducible exact H2_) | with_reducible exact H | (rw [hy153]; exact H) | exact H
                    have Ny153 := Aside0.mk hy153
                    clear hy153
                    have H' := Aside0.mk H
                    clear H
                    go_wp2_with (first | ((with_reducible refine gate_callee (f := 55) rfl ?_); refine goesL_ (some 23) rfl rfl Try.func55 (by kernel_rfl) rfl #[.string (a0.extract (x3_1 : Int).toNat a0.size), .int .u64 x5_1] rfl (by (try simp only [List.map_toArray, List.map_cons, List.map_nil]); first | done | rfl | (simp only [List.length_drop, List.length_take]; rfl)) ?_; (with_reducible refine (ringworkref25_look.calls (a0.extract (x3_1 : Int).toNat a0.size) x5_1 t144 t145 t146 t147 t148 t149 t150 false _ A6.out).mono ?_); rintro e w16 ⟨rfl, hb⟩; refine ⟨_, rfl, ?_⟩; have n0_ := Aside0.mk (Kd.R_below (by (with_reducible repeat (first | apply Kd.R_alloc | apply Kd.R_drewN | apply Kd.R_drew)); exact HO_2.out) hb); have n1_ := Aside0.mk (below_step (by repeat (first | (with_reducible first | exact HB.out | apply below_alloc | apply pw_below_drewN | apply below_drew1) | exact HB.out)) hb); clear HO_2; clear HB; have HO_2 := n0_; have HB := n1_; clear n0_ n1_; (try clear hb); (try clear hb2); (try clear hk); (try clear hi)) | ((with_reducible refine gate_dst (N := 7) rfl ?_); refine box_event ?hg (N := 7) ?hd (cs := #[.int .i64 0, .int .i64 0, .string (⟨#[]⟩ : ByteArray), .bool false, .string (⟨#[]⟩ : ByteArray)]) (t := 39) ?hr ?_; (case hd => rfl); (case hg => rfl); (case hr => first | (go_simp; done) | (go_simp; rfl)); intro gb152 hg w17 hbox hb; have n0_ := Aside0.mk (Kd.R_below (Kd.R_elderB (by (with_reducible repeat (first | apply Kd.R_alloc | apply Kd.R_drewN | apply Kd.R_drew)); exact HO_2.out) gb152 (Nat.le_of_eq hg.symm)) hb); have n1_ := Aside0.mk (below_step (by repeat (first | (with_reducible first | exact HB.out | apply below_alloc | apply pw_below_drewN | apply below_drew1) | exact HB.out)) hb); have n2_ := Aside0.mk (hbox); have n3_ := Aside0.mk ((by rw [hg]; exact (below_size (by repeat (first | (with_reducible first | exact HB.out | apply below_alloc | apply pw_below_drewN | apply below_drew1) | exact HB.out))) : w.heap.size ≤ gb152)); have n4_ := Aside0.mk ((by rw [hg]; exact (below_size (by repeat (first | (with_reducible first | exact HB.out | apply below_alloc | apply pw_below_drewN | apply below_drew1) | exact HB.out))) : w.heap.size ≤ gb152)); clear HO_2; clear HB; have HO_2 := n0_; have HB := n1_; have BK152 := n2_; have GW152 := n3_; have GE152 := n4_; clear n0_ n1_ n2_ n3_ n4_; clear hb hbox hg; have hcz18_0 : w17.cell? ⟨gb152, 0, none⟩ = some (.int .i64 0) := (blk_cell BK152.out 0).trans rfl; have hcz18_1 : w17.cell? ⟨gb152, 1, none⟩ = some (.int .i64 0) := (blk_cell BK152.out 1).trans rfl; have hcz18_2 : w17.cell? ⟨gb152, 2, none⟩ = some (.string (⟨#[]⟩ : ByteArray)) := (blk_cell BK152.out 2).trans rfl; have hcz18_3 : w17.cell? ⟨gb152, 3, none⟩ = some (.bool false) := (blk_cell BK152.out 3).trans rfl; have hcz18_4 : w17.cell? ⟨gb152, 4, none⟩ = some (.string (⟨#[]⟩ : ByteArray)) := (blk_cell BK152.out 4).trans rfl; have hfz18_0 := blk_frozen BK152.out 0; have hfz18_1 := blk_frozen BK152.out 1; have hfz18_2 := blk_frozen BK152.out 2; have hfz18_3 := blk_frozen BK152.out 3; have hfz18_4 := blk_frozen BK152.out 4) | ((with_reducible refine gate_builtin (b := .append) (xs := #[.tmp 37, .tmp 39]) rfl ?_); at_builtin; refine Kd.R_append k39 (w0 := w) w.heap.size rfl (.tmp 37) (.tmp 39) 23 39 (.agg #[(.int .i64 0), (.int .i64 0), (.string ⟨#[]⟩), (.bool false), (.string ⟨#[]⟩)]) 56 rfl Try.underlying23 info39 rfl (by decide) (by omega) u2 x2_1 (⟨t144, t145, t146, t147, t148⟩ : S39) [.int .i64 t144, .int .i64 t145, .string t146, .bool t147, .string t148] (fun k_ => k_ ≠ gb152) (fun _ => False) rfl (by first | (go_simp; done) | (go_simp; rfl)) ?aP (fun _ hk => hk.elim) ?aF ?aO ?aB ?aS ?aL ?_; (case aP => exact k39_mkM _ _ _ (⟨t144, t145, t146, t147, t148⟩ : S39)); (case aB => exact (by repeat (first | (with_reducible first | exact HB.out | apply below_alloc | apply pw_below_drewN | apply below_drew1 | refine below_set ?_ GE152.out) | exact HB.out))); (case aF => exact (fun k_ hk => Kd.freshB (g := gb152) (o := .cells #[.int .i64 t144, .int .i64 t145, .string t146, .bool t147, .string t148] 39 (0, 0)) (by (with_reducible repeat (first | refine blk_drewN ?_ _ | refine blk_drew ?_ | refine blk_alloc ?_ _)); refine blk_put (cs := #[.int .i64 t144, .int .i64 t145, .string t146, .bool t147, .string (⟨#[]⟩ : ByteArray)]) ?_ 4 _ rfl; (with_reducible repeat (first | refine blk_drewN ?_ _ | refine blk_drew ?_ | refine blk_alloc ?_ _)); refine blk_put (cs := #[.int .i64 t144, .int .i64 t145, .string t146, .bool false, .string (⟨#[]⟩ : ByteArray)]) ?_ 3 _ rfl; (with_reducible repeat (first | refine blk_drewN ?_ _ | refine blk_drew ?_ | refine blk_alloc ?_ _)); refine blk_put (cs := #[.int .i64 t144, .int .i64 t145, .string (⟨#[]⟩ : ByteArray), .bool false, .string (⟨#[]⟩ : ByteArray)]) ?_ 2 _ rfl; (with_reducible repeat (first | refine blk_drewN ?_ _ | refine blk_drew ?_ | refine blk_alloc ?_ _)); refine blk_put (cs := #[.int .i64 t144, .int .i64 0, .string (⟨#[]⟩ : ByteArray), .bool false, .string (⟨#[]⟩ : ByteArray)]) ?_ 1 _ rfl; (with_reducible repeat (first | refine blk_drewN ?_ _ | refine blk_drew ?_ | refine blk_alloc ?_ _)); refine blk_put (cs := #[.int .i64 0, .int .i64 0, .string (⟨#[]⟩ : ByteArray), .bool false, .string (⟨#[]⟩ : ByteArray)]) ?_ 0 _ rfl; (with_reducible repeat (first | refine blk_drewN ?_ _ | refine blk_drew ?_ | refine blk_alloc ?_ _)); exact BK152.out) k_ hk)); (case aO => exact (by (with_reducible repeat (first | apply Kd.R_alloc | apply Kd.R_drewN | apply Kd.R_drew)); exact Kd.R_mono (Kd.R_far (p := ⟨gb152, 4, none⟩) (Kd.R_far (p := ⟨gb152, 3, none⟩) (Kd.R_far (p := ⟨gb152, 2, none⟩) (Kd.R_far (p := ⟨gb152, 1, none⟩) (Kd.R_far (p := ⟨gb152, 0, none⟩) (Kd.R_mono HO_2.out (fun k_ hk => (⟨hk, hk.2⟩ : _ ∧ k_ ≠ gb152))) (fun _ hk => hk.2) (.int .i64 t144)) (fun _ hk => hk.2) (.int .i64 t145)) (fun _ hk => hk.2) (.string t146)) (fun _ hk => hk.2) (.bool t147)) (fun _ hk => hk.2) (.string t148)) (fun _ hk => hk.1.2))); (case aS => exact (below_size (by repeat (first | (with_reducible first | exact HB.out | apply below_alloc | apply pw_below_drewN | apply below_drew1 | refine below_set ?_ GE152.out) | exact HB.out)))); (case aL => have := LMc15.out; omega); intro v154 w19 ho hb hg hat; rw [← Ny153.out] at ho; have n0_ := Aside0.mk (blk_grown (g := gb152) (o := .cells #[.int .i64 t144, .int .i64 t145, .string t146, .bool t147, .string t148] 39 (0, 0)) (by (with_reducible repeat (first | refine blk_drewN ?_ _ | refine blk_drew ?_ | refine blk_alloc ?_ _)); refine blk_put (cs := #[.int .i64 t144, .int .i64 t145, .string t146, .bool t147, .string (⟨#[]⟩ : ByteArray)]) ?_ 4 _ rfl; (with_reducible repeat (first | refine blk_drewN ?_ _ | refine blk_drew ?_ | refine blk_alloc ?_ _)); refine blk_put (cs := #[.int .i64 t144, .int .i64 t145, .string t146, .bool false, .string (⟨#[]⟩ : ByteArray)]) ?_ 3 _ rfl; (with_reducible repeat (first | refine blk_drewN ?_ _ | refine blk_drew ?_ | refine blk_alloc ?_ _)); refine blk_put (cs := #[.int .i64 t144, .int .i64 t145, .string (⟨#[]⟩ : ByteArray), .bool false, .string (⟨#[]⟩ : ByteArray)]) ?_ 2 _ rfl; (with_reducible repeat (first | refine blk_drewN ?_ _ | refine blk_drew ?_ | refine blk_alloc ?_ _)); refine blk_put (cs := #[.int .i64 t144, .int .i64 0, .string (⟨#[]⟩ : ByteArray), .bool false, .string (⟨#[]⟩ : ByteArray)]) ?_ 1 _ rfl; (with_reducible repeat (first | refine blk_drewN ?_ _ | refine blk_drew ?_ | refine blk_alloc ?_ _)); refine blk_put (cs := #[.int .i64 0, .int .i64 0, .string (⟨#[]⟩ : ByteArray), .bool false, .string (⟨#[]⟩ : ByteArray)]) ?_ 0 _ rfl; (with_reducible repeat (first | refine blk_drewN ?_ _ | refine blk_drew ?_ | refine blk_alloc ?_ _)); exact BK152.out) hg (Kd.R_away HO_2.out (fun _ hk => hk.2))); have n1_ := Aside0.mk (hb); have n2_ := Aside0.mk (ho); clear BK152; clear HB; clear HO_2; have BK152 := n0_; have HB := n1_; have HO155 := n2_; clear n0_ n1_ n2_; clear ho hb hg hat))
                    go_roundg k1
                    case measure => have := HK1.out; omega
                    case rel => exact ⟨(y153), (wrap64 (x3_1 + t149)), (t150), (by first | rfl | (simp; done) | (simp [*]; done)), (by first | rfl | (simp; done) | (simp [*]; done)), H', ⟨by have := HK1.out; omega⟩, ⟨by (with_reducible repeat (first | apply Kd.R_alloc | apply Kd.R_drewN | apply Kd.R_drew)); exact Kd.R_mono HO155.out (fun _ hk => trivial)⟩, ⟨by repeat (first | (with_reducible first | exact HB.out | apply below_alloc | apply pw_below_drewN | apply below_drew1 | refine below_set ?_ GE152.out) | exact HB.out)⟩⟩
                  · rw [if_neg c15] at H
                    exact absurd H (by simp)
            · rw [if_neg c5] at H
              exact absurd H (by simp)
          · rw [if_neg c4] at H
            exact absurd H (by simp)
        · rw [if_neg c3] at H
          have c3b0 : decide (x3_1 < (a0.size : Int)) = false := decide_eq_false c3
          clear c3
          simp only [Option.some.injEq, Prod.mk.injEq] at H
          obtain ⟨rfl, rfl, rfl, rfl, rfl⟩ := H
          go_wp2
          refine bodyPost_ret (results_list (rs := [.tmp 2, .tmp 3, .tmp 4, .tmp 5, .tmp 6]) rfl (by simp) (.tmp (.tmp (.tmp (.tmp (.tmp .nil)))))) rfl ?_
          exact ⟨_, by first | rfl | (simp [errW_none, errW_some] <;> rfl) | (simp [*, errW_none, errW_some] <;> rfl), by (with_reducible repeat (first | apply Kd.R_alloc | apply Kd.R_drewN | apply Kd.R_drew)); exact HO_2.out, by repeat (first | (with_reducible first | exact HB.out | apply below_alloc | apply pw_below_drewN | apply below_drew1) | exact HB.out)⟩

end Go.Proofs.Yteblpjnkinghoaa.J
/- The reference's written and the program's body: a note's bytes up to its sum. -/
set_option linter.unusedVariables false
set_option linter.unusedSimpArgs false
namespace Go.Proofs.Yteblpjnkinghoaa.J
open Go.RowKit Go.Proofs.YteblpjnkinghoaaW.PrintWords Go.Proofs.YteblpjnkinghoaaW.PrintLast Go.Proofs.YteblpjnkinghoaaW.PrintMore
def wrL (a b : Int) (c : ByteArray) (d : Bool) (e : ByteArray) : ByteArray := strOfNums ((([74, a, b / 256, b % 256, (c.size : Int)] ++ bytesOf c) ++ [if d = true then 1 else 0, (e.size : Int) / 256, (e.size : Int) % 256]) ++ bytesOf e)
theorem strOfNums_append (x : List Int) (e : ByteArray) : strOfNums (x ++ bytesOf e) = strOfNums x ++ e := by
  apply ByteArray.ext
  apply Array.toList_inj.1
  rw [strOfNums_data, List.map_append, ByteArray.data_append, Array.toList_append, strOfNums_data]
  congr 1
  unfold bytesOf
  rw [List.map_map]
  conv => rhs; rw [← List.map_id e.data.toList]
  apply List.map_congr_left
  intro b _
  simp
set_option maxHeartbeats 8000000 in
set_option maxRecDepth 100000 in
theorem rwritten_calls (a b : Int) (c : ByteArray) (d : Bool) (e : ByteArray) (w : World) (ha : 1 ≤ a ∧ a ≤ 7) (hb0 : 0 ≤ b ∧ b ≤ 1000) (hc : (c.size : Int) ≤ 40) (he : (e.size : Int) ≤ 4000) :
    Calls Try.prog 74 #[.agg #[.int .i64 a, .int .i64 b, .string c, .bool d, .string e]] w fun e' w' => e' = .returned (.string (wrL a b c d e)) ∧ Below w.heap.size w w' := by
  have hu39 := Try.underlying39
  cases d
  · obtain ⟨y1, hy1⟩ : ∃ y : List Int, y = [74, a, b / 256, b % 256, (c.size : Int)] := ⟨_, rfl⟩
    obtain ⟨y2, hy2⟩ : ∃ y : List Int, y = y1 ++ bytesOf c := ⟨_, rfl⟩
    obtain ⟨y3, hy3⟩ : ∃ y : List Int, y = [0, (e.size : Int) / 256, (e.size : Int) % 256] := ⟨_, rfl⟩
    obtain ⟨y4, hy4⟩ : ∃ y : List Int, y = y2 ++ y3 := ⟨_, rfl⟩
    obtain ⟨y5, hy5⟩ : ∃ y : List Int, y = y4 ++ bytesOf e := ⟨_, rfl⟩
    have hbc := bytesOf_length c
    have hbe := bytesOf_length e
    have l1 : y1.length = 5 := by rw [hy1]; rfl
    have l2 : y2.length = 5 + c.size := by rw [hy2, List.length_append, l1, hbc]
    have l3 : y3.length = 3 := by rw [hy3]; rfl
    have l4 : y4.length = 8 + c.size := by rw [hy4, List.length_append, l2, l3]; omega
    have hres : strOfNums y5 = wrL a b c false e := by
      rw [hy5, hy4, hy3, hy2, hy1]; rfl
    have hres2 : strOfNums y4 ++ e = wrL a b c false e := by
      rw [← hres, hy5, strOfNums_append]
    have L2 := Aside0.mk (show y1.length + c.size < 140737488355328 by omega)
    have L4 := Aside0.mk (show y2.length + y3.length < 140737488355328 by omega)
    have L5 := Aside0.mk (show y4.length + e.size < 140737488355328 by omega)
    have hno : (9223372036854775807 < (strOfNums y4).size + e.size) = False := eq_false (by rw [strOfNums_size]; omega)
    have N1 := Aside0.mk hy1
    have N2 := Aside0.mk hy2
    have N3 := Aside0.mk hy3
    have N4 := Aside0.mk hy4
    have N5 := Aside0.mk hy5
    have HR := Aside0.mk hres
    have HR2 := Aside0.mk hres2
    clear hy1 hy2 hy3 hy4 hy5 l1 l2 l3 l4 hbc hbe hres hres2
    go_enter Try.func74, Try.ntmps74
    go_wp2_with (first | ((with_reducible refine gate_dst (N := 1) rfl ?_); refine box_event ?hg (N := 1) ?hd (cs := #[.int .i64 a, .int .i64 b, .string c, .bool false, .string e]) (t := 39) ?hr ?_; (case hd => rfl); (case hg => rfl); (case hr => first | (go_simp; done) | (go_simp; rfl)); intro g hg w6 hbox hb; have GE := Aside0.mk (Nat.le_of_eq hg.symm); have HB := Aside0.mk hb; have BK := Aside0.mk hbox; clear hg hbox hb; have hc0_0 : w6.cell? ⟨g, 0, none⟩ = some (.int .i64 a) := (blk_cell BK.out 0).trans rfl; have hc0_1 : w6.cell? ⟨g, 1, none⟩ = some (.int .i64 b) := (blk_cell BK.out 1).trans rfl; have hc0_2 : w6.cell? ⟨g, 2, none⟩ = some (.string c) := (blk_cell BK.out 2).trans rfl; have hc0_3 : w6.cell? ⟨g, 3, none⟩ = some (.bool false) := (blk_cell BK.out 3).trans rfl; have hc0_4 : w6.cell? ⟨g, 4, none⟩ = some (.string e) := (blk_cell BK.out 4).trans rfl; have hf0_0 := blk_frozen BK.out 0; have hf0_1 := blk_frozen BK.out 1; have hf0_2 := blk_frozen BK.out 2; have hf0_3 := blk_frozen BK.out 3; have hf0_4 := blk_frozen BK.out 4) | ((with_reducible refine gate_dst (N := 22) rfl ?_); (refine Kd.R_lit (Kd.int .u8) _ 5 ?hg (N := 22) ?hd (xs := ([74, a, b / 256, b % 256, (c.size : Int)] : List Int)) (inner := [.int .u8 (74), .int .u8 (a), .int .u8 (b / 256), .int .u8 (b % 256), .int .u8 ((c.size : Int))]) (ok := fun _ => True) (okp := fun _ => True) ?hr ?hp (fun _ hk => hk) trivial (Below.refl _ _) (Nat.le_refl _) (by simp) ?_; (case hd => rfl); (case hg => rfl); (case hr => first | (go_simp; done) | (go_simp; rfl)); (case hp => exact (Reps.one (show Kd.M (Kd.int .u8) _ _ _ (74) [.int .u8 (74)] from rfl) (Reps.one (show Kd.M (Kd.int .u8) _ _ _ (a) [.int .u8 (a)] from rfl) (Reps.one (show Kd.M (Kd.int .u8) _ _ _ (b / 256) [.int .u8 (b / 256)] from rfl) (Reps.one (show Kd.M (Kd.int .u8) _ _ _ (b % 256) [.int .u8 (b % 256)] from rfl) (Reps.one (show Kd.M (Kd.int .u8) _ _ _ ((c.size : Int)) [.int .u8 ((c.size : Int))] from rfl) (Reps.none _ _))))))); intro v1 w8 ho hb hg_ hnew_; clear hg_ hnew_; (first | rw [← N1.out] at ho | (simp only [Int.reduceToNat] at ho; rw [← N1.out] at ho)); have n0_ := Aside0.mk (Kd.R_lower ho (below_size (by repeat (first | (with_reducible first | exact HB.out | apply below_alloc | apply pw_below_drewN | apply below_drew1 | refine below_set ?_ GE.out) | exact HB.out)))); have n1_ := Aside0.mk (blk_below (g := g) (o := .cells #[.int .i64 a, .int .i64 b, .string c, .bool false, .string e] 39 (0, 0)) (by (with_reducible repeat (first | refine blk_drewN ?_ _ | refine blk_drew ?_ | refine blk_alloc ?_ _)); exact BK.out) hb); have n2_ := Aside0.mk (below_step (by repeat (first | (with_reducible first | exact HB.out | apply below_alloc | apply pw_below_drewN | apply below_drew1 | refine below_set ?_ GE.out) | exact HB.out)) hb); clear BK; clear HB; have HO1 := n0_; have BK := n1_; have HB := n2_; clear n0_ n1_ n2_; clear hb ho; have hc1_0 : w8.cell? ⟨g, 0, none⟩ = some (.int .i64 a) := (blk_cell BK.out 0).trans rfl; have hc1_1 : w8.cell? ⟨g, 1, none⟩ = some (.int .i64 b) := (blk_cell BK.out 1).trans rfl; have hc1_2 : w8.cell? ⟨g, 2, none⟩ = some (.string c) := (blk_cell BK.out 2).trans rfl; have hc1_3 : w8.cell? ⟨g, 3, none⟩ = some (.bool false) := (blk_cell BK.out 3).trans rfl; have hc1_4 : w8.cell? ⟨g, 4, none⟩ = some (.string e) := (blk_cell BK.out 4).trans rfl; have hf1_0 := blk_frozen BK.out 0; have hf1_1 := blk_frozen BK.out 1; have hf1_2 := blk_frozen BK.out 2; have hf1_3 := blk_frozen BK.out 3; have hf1_4 := blk_frozen BK.out 4)) | (at_builtin; refine print_append_str (w0 := w) w.heap.size rfl (.tmp 23) _ 53 9 5 rfl Try.underlying53 Try.underlying9 info5 v1 y1 c rfl rfl ?aO ?aB ?aS ?aL ?_; (case aB => exact (by repeat (first | (with_reducible first | exact HB.out | apply below_alloc | apply pw_below_drewN | apply below_drew1 | refine below_set ?_ GE.out) | exact HB.out))); (case aO => exact (Kd.own_of_R (by (with_reducible repeat (first | apply Kd.R_alloc | apply Kd.R_drewN | apply Kd.R_drew)); exact HO1.out))); (case aS => exact (below_size (by repeat (first | (with_reducible first | exact HB.out | apply below_alloc | apply pw_below_drewN | apply below_drew1 | refine below_set ?_ GE.out) | exact HB.out)))); (case aL => have := L2.out; omega); intro v2 w10 ho0 hb hg; have ho := Kd.R_of_own (h1 := fun _ => rfl) (ok := fun _ => True) ho0 (fun _ _ => trivial); clear ho0; rw [← N2.out] at ho; have n0_ := Aside0.mk (blk_grown (g := g) (o := .cells #[.int .i64 a, .int .i64 b, .string c, .bool false, .string e] 39 (0, 0)) (by (with_reducible repeat (first | refine blk_drewN ?_ _ | refine blk_drew ?_ | refine blk_alloc ?_ _)); exact BK.out) hg (Kd.R_ne HO1.out BK.out (by decide))); have n1_ := Aside0.mk (hb); have n2_ := Aside0.mk (ho); clear BK; clear HB; clear HO1; have BK := n0_; have HB := n1_; have HO2 := n2_; clear n0_ n1_ n2_; clear ho hb hg; have hc2_0 : w10.cell? ⟨g, 0, none⟩ = some (.int .i64 a) := (blk_cell BK.out 0).trans rfl; have hc2_1 : w10.cell? ⟨g, 1, none⟩ = some (.int .i64 b) := (blk_cell BK.out 1).trans rfl; have hc2_2 : w10.cell? ⟨g, 2, none⟩ = some (.string c) := (blk_cell BK.out 2).trans rfl; have hc2_3 : w10.cell? ⟨g, 3, none⟩ = some (.bool false) := (blk_cell BK.out 3).trans rfl; have hc2_4 : w10.cell? ⟨g, 4, none⟩ = some (.string e) := (blk_cell BK.out 4).trans rfl; have hf2_0 := blk_frozen BK.out 0; have hf2_1 := blk_frozen BK.out 1; have hf2_2 := blk_frozen BK.out 2; have hf2_3 := blk_frozen BK.out 3; have hf2_4 := blk_frozen BK.out 4) | ((with_reducible refine gate_dst (N := 39) rfl ?_); (refine Kd.R_lit (Kd.int .u8) _ 5 ?hg (N := 39) ?hd (xs := ([0, (e.size : Int) / 256, (e.size : Int) % 256] : List Int)) (inner := [.int .u8 (0), .int .u8 ((e.size : Int) / 256), .int .u8 ((e.size : Int) % 256)]) (ok := fun _ => True) (okp := fun _ => True) ?hr ?hp (fun _ hk => hk) trivial (Below.refl _ _) (Nat.le_refl _) (by simp) ?_; (case hd => rfl); (case hg => rfl); (case hr => first | (go_simp; done) | (go_simp; rfl)); (case hp => exact (Reps.one (show Kd.M (Kd.int .u8) _ _ _ (0) [.int .u8 (0)] from rfl) (Reps.one (show Kd.M (Kd.int .u8) _ _ _ ((e.size : Int) / 256) [.int .u8 ((e.size : Int) / 256)] from rfl) (Reps.one (show Kd.M (Kd.int .u8) _ _ _ ((e.size : Int) % 256) [.int .u8 ((e.size : Int) % 256)] from rfl) (Reps.none _ _))))); intro v3 w12 ho hb hg_ hnew_; clear hg_ hnew_; (first | rw [← N3.out] at ho | (simp only [Int.reduceToNat] at ho; rw [← N3.out] at ho)); have n0_ := Aside0.mk (Kd.R_elder' (by (with_reducible repeat (first | apply Kd.R_alloc | apply Kd.R_drewN | apply Kd.R_drew)); exact HO2.out) (Kd.R_base ho) hb); have n1_ := Aside0.mk (Kd.R_lower (Kd.R_new' ho (Kd.R_lt (by (with_reducible repeat (first | apply Kd.R_alloc | apply Kd.R_drewN | apply Kd.R_drew)); exact HO2.out))) (below_size (by repeat (first | (with_reducible first | exact HB.out | apply below_alloc | apply pw_below_drewN | apply below_drew1 | refine below_set ?_ GE.out) | exact HB.out)))); have n2_ := Aside0.mk (blk_below (g := g) (o := .cells #[.int .i64 a, .int .i64 b, .string c, .bool false, .string e] 39 (0, 0)) (by (with_reducible repeat (first | refine blk_drewN ?_ _ | refine blk_drew ?_ | refine blk_alloc ?_ _)); exact BK.out) hb); have n3_ := Aside0.mk (below_step (by repeat (first | (with_reducible first | exact HB.out | apply below_alloc | apply pw_below_drewN | apply below_drew1 | refine below_set ?_ GE.out) | exact HB.out)) hb); clear HO2; clear BK; clear HB; have HO2 := n0_; have HO3 := n1_; have BK := n2_; have HB := n3_; clear n0_ n1_ n2_ n3_; clear hb ho; obtain ⟨Ao, co, eo⟩ := Kd.R_slice HO3.out; subst eo; have hc3_0 : w12.cell? ⟨g, 0, none⟩ = some (.int .i64 a) := (blk_cell BK.out 0).trans rfl; have hc3_1 : w12.cell? ⟨g, 1, none⟩ = some (.int .i64 b) := (blk_cell BK.out 1).trans rfl; have hc3_2 : w12.cell? ⟨g, 2, none⟩ = some (.string c) := (blk_cell BK.out 2).trans rfl; have hc3_3 : w12.cell? ⟨g, 3, none⟩ = some (.bool false) := (blk_cell BK.out 3).trans rfl; have hc3_4 : w12.cell? ⟨g, 4, none⟩ = some (.string e) := (blk_cell BK.out 4).trans rfl; have hf3_0 := blk_frozen BK.out 0; have hf3_1 := blk_frozen BK.out 1; have hf3_2 := blk_frozen BK.out 2; have hf3_3 := blk_frozen BK.out 3; have hf3_4 := blk_frozen BK.out 4)) | ((with_reducible refine gate_builtin (b := .append) (xs := #[.tmp 27, .tmp 39]) rfl ?_); at_builtin; refine Kd.R_append_rows (Kd.int .u8) (w0 := w) w.heap.size rfl (.tmp 27) (.tmp 39) 53 5 (.int .u8 0) 1 rfl Try.underlying53 info5 rfl (by decide) (by omega) v2 y2 y3 _ _ _ (fun k_ => some k_ ≠ (.slice Ao y3.length co : Value).ownBlock) (fun _ => False) rfl rfl ?aO ?aR (fun _ _ h => h) (fun _ h => h.elim) ?aF ?aB ?aS ?aL ?_; (case aR => repeat (first | exact (Kd.R_reads' HO3.out).2.2 | (with_reducible refine Kd.C_alloc ?_ _) | (with_reducible refine Kd.C_drewN ?_ _) | (with_reducible refine Kd.C_drew ?_))); (case aB => exact (by repeat (first | (with_reducible first | exact HB.out | apply below_alloc | apply pw_below_drewN | apply below_drew1 | refine below_set ?_ GE.out) | exact HB.out))); (case aF => exact (fun k_ hk => Kd.fresh' (Kd.R_lt (by (with_reducible repeat (first | apply Kd.R_alloc | apply Kd.R_drewN | apply Kd.R_drew)); exact HO3.out)) k_ hk)); (case aO => exact (by (with_reducible repeat (first | apply Kd.R_alloc | apply Kd.R_drewN | apply Kd.R_drew)); exact Kd.R_mono HO2.out (fun _ hk => hk.2))); (case aS => exact (below_size (by repeat (first | (with_reducible first | exact HB.out | apply below_alloc | apply pw_below_drewN | apply below_drew1 | refine below_set ?_ GE.out) | exact HB.out)))); (case aL => have := L4.out; omega); intro v4 w14 ho hb hg hat; rw [← N4.out] at ho; have n0_ := Aside0.mk (blk_grown (g := g) (o := .cells #[.int .i64 a, .int .i64 b, .string c, .bool false, .string e] 39 (0, 0)) (by (with_reducible repeat (first | refine blk_drewN ?_ _ | refine blk_drew ?_ | refine blk_alloc ?_ _)); exact BK.out) hg (Kd.R_ne HO2.out BK.out (by decide))); have n1_ := Aside0.mk (Kd.R_after (ok := (fun _ => True)) (by (with_reducible repeat (first | apply Kd.R_alloc | apply Kd.R_drewN | apply Kd.R_drew)); exact HO3.out) hg hat); have n2_ := Aside0.mk (hb); have n3_ := Aside0.mk (Kd.R_mono (ok' := fun _ => True) ho (fun _ _ => trivial)); clear BK; clear HO3; clear HB; clear HO2; have BK := n0_; have HB := n2_; have HO4 := n3_; clear n0_ n1_ n2_ n3_; clear ho hb hg hat; have hcv := own_string (P := Try.prog) Try.underlying53 Try.underlying5 Try.underlying9 (Kd.own_of_R HO4.out); have hc4_0 : w14.cell? ⟨g, 0, none⟩ = some (.int .i64 a) := (blk_cell BK.out 0).trans rfl; have hc4_1 : w14.cell? ⟨g, 1, none⟩ = some (.int .i64 b) := (blk_cell BK.out 1).trans rfl; have hc4_2 : w14.cell? ⟨g, 2, none⟩ = some (.string c) := (blk_cell BK.out 2).trans rfl; have hc4_3 : w14.cell? ⟨g, 3, none⟩ = some (.bool false) := (blk_cell BK.out 3).trans rfl; have hc4_4 : w14.cell? ⟨g, 4, none⟩ = some (.string e) := (blk_cell BK.out 4).trans rfl; have hf4_0 := blk_frozen BK.out 0; have hf4_1 := blk_frozen BK.out 1; have hf4_2 := blk_frozen BK.out 2; have hf4_3 := blk_frozen BK.out 3; have hf4_4 := blk_frozen BK.out 4))
    go_ret
    exact ⟨congrArg (fun x => Ending.returned (Value.string x)) (HR2.out), (by repeat (first | (with_reducible first | exact HB.out | apply below_alloc | apply pw_below_drewN | apply below_drew1 | refine below_set ?_ GE.out) | exact HB.out))⟩
  · obtain ⟨y1, hy1⟩ : ∃ y : List Int, y = [74, a, b / 256, b % 256, (c.size : Int)] := ⟨_, rfl⟩
    obtain ⟨y2, hy2⟩ : ∃ y : List Int, y = y1 ++ bytesOf c := ⟨_, rfl⟩
    obtain ⟨y3, hy3⟩ : ∃ y : List Int, y = [1, (e.size : Int) / 256, (e.size : Int) % 256] := ⟨_, rfl⟩
    obtain ⟨y4, hy4⟩ : ∃ y : List Int, y = y2 ++ y3 := ⟨_, rfl⟩
    obtain ⟨y5, hy5⟩ : ∃ y : List Int, y = y4 ++ bytesOf e := ⟨_, rfl⟩
    have hbc := bytesOf_length c
    have hbe := bytesOf_length e
    have l1 : y1.length = 5 := by rw [hy1]; rfl
    have l2 : y2.length = 5 + c.size := by rw [hy2, List.length_append, l1, hbc]
    have l3 : y3.length = 3 := by rw [hy3]; rfl
    have l4 : y4.length = 8 + c.size := by rw [hy4, List.length_append, l2, l3]; omega
    have hres : strOfNums y5 = wrL a b c true e := by
      rw [hy5, hy4, hy3, hy2, hy1]; rfl
    have hres2 : strOfNums y4 ++ e = wrL a b c true e := by
      rw [← hres, hy5, strOfNums_append]
    have L2 := Aside0.mk (show y1.length + c.size < 140737488355328 by omega)
    have L4 := Aside0.mk (show y2.length + y3.length < 140737488355328 by omega)
    have L5 := Aside0.mk (show y4.length + e.size < 140737488355328 by omega)
    have hno : (9223372036854775807 < (strOfNums y4).size + e.size) = False := eq_false (by rw [strOfNums_size]; omega)
    have N1 := Aside0.mk hy1
    have N2 := Aside0.mk hy2
    have N3 := Aside0.mk hy3
    have N4 := Aside0.mk hy4
    have N5 := Aside0.mk hy5
    have HR := Aside0.mk hres
    have HR2 := Aside0.mk hres2
    clear hy1 hy2 hy3 hy4 hy5 l1 l2 l3 l4 hbc hbe hres hres2
    go_enter Try.func74, Try.ntmps74
    go_wp2_with (first | ((with_reducible refine gate_dst (N := 1) rfl ?_); refine box_event ?hg (N := 1) ?hd (cs := #[.int .i64 a, .int .i64 b, .string c, .bool true, .string e]) (t := 39) ?hr ?_; (case hd => rfl); (case hg => rfl); (case hr => first | (go_simp; done) | (go_simp; rfl)); intro g hg w6 hbox hb; have GE := Aside0.mk (Nat.le_of_eq hg.symm); have HB := Aside0.mk hb; have BK := Aside0.mk hbox; clear hg hbox hb; have hc0_0 : w6.cell? ⟨g, 0, none⟩ = some (.int .i64 a) := (blk_cell BK.out 0).trans rfl; have hc0_1 : w6.cell? ⟨g, 1, none⟩ = some (.int .i64 b) := (blk_cell BK.out 1).trans rfl; have hc0_2 : w6.cell? ⟨g, 2, none⟩ = some (.string c) := (blk_cell BK.out 2).trans rfl; have hc0_3 : w6.cell? ⟨g, 3, none⟩ = some (.bool true) := (blk_cell BK.out 3).trans rfl; have hc0_4 : w6.cell? ⟨g, 4, none⟩ = some (.string e) := (blk_cell BK.out 4).trans rfl; have hf0_0 := blk_frozen BK.out 0; have hf0_1 := blk_frozen BK.out 1; have hf0_2 := blk_frozen BK.out 2; have hf0_3 := blk_frozen BK.out 3; have hf0_4 := blk_frozen BK.out 4) | ((with_reducible refine gate_dst (N := 22) rfl ?_); (refine Kd.R_lit (Kd.int .u8) _ 5 ?hg (N := 22) ?hd (xs := ([74, a, b / 256, b % 256, (c.size : Int)] : List Int)) (inner := [.int .u8 (74), .int .u8 (a), .int .u8 (b / 256), .int .u8 (b % 256), .int .u8 ((c.size : Int))]) (ok := fun _ => True) (okp := fun _ => True) ?hr ?hp (fun _ hk => hk) trivial (Below.refl _ _) (Nat.le_refl _) (by simp) ?_; (case hd => rfl); (case hg => rfl); (case hr => first | (go_simp; done) | (go_simp; rfl)); (case hp => exact (Reps.one (show Kd.M (Kd.int .u8) _ _ _ (74) [.int .u8 (74)] from rfl) (Reps.one (show Kd.M (Kd.int .u8) _ _ _ (a) [.int .u8 (a)] from rfl) (Reps.one (show Kd.M (Kd.int .u8) _ _ _ (b / 256) [.int .u8 (b / 256)] from rfl) (Reps.one (show Kd.M (Kd.int .u8) _ _ _ (b % 256) [.int .u8 (b % 256)] from rfl) (Reps.one (show Kd.M (Kd.int .u8) _ _ _ ((c.size : Int)) [.int .u8 ((c.size : Int))] from rfl) (Reps.none _ _))))))); intro v1 w8 ho hb hg_ hnew_; clear hg_ hnew_; (first | rw [← N1.out] at ho | (simp only [Int.reduceToNat] at ho; rw [← N1.out] at ho)); have n0_ := Aside0.mk (Kd.R_lower ho (below_size (by repeat (first | (with_reducible first | exact HB.out | apply below_alloc | apply pw_below_drewN | apply below_drew1 | refine below_set ?_ GE.out) | exact HB.out)))); have n1_ := Aside0.mk (blk_below (g := g) (o := .cells #[.int .i64 a, .int .i64 b, .string c, .bool true, .string e] 39 (0, 0)) (by (with_reducible repeat (first | refine blk_drewN ?_ _ | refine blk_drew ?_ | refine blk_alloc ?_ _)); exact BK.out) hb); have n2_ := Aside0.mk (below_step (by repeat (first | (with_reducible first | exact HB.out | apply below_alloc | apply pw_below_drewN | apply below_drew1 | refine below_set ?_ GE.out) | exact HB.out)) hb); clear BK; clear HB; have HO1 := n0_; have BK := n1_; have HB := n2_; clear n0_ n1_ n2_; clear hb ho; have hc1_0 : w8.cell? ⟨g, 0, none⟩ = some (.int .i64 a) := (blk_cell BK.out 0).trans rfl; have hc1_1 : w8.cell? ⟨g, 1, none⟩ = some (.int .i64 b) := (blk_cell BK.out 1).trans rfl; have hc1_2 : w8.cell? ⟨g, 2, none⟩ = some (.string c) := (blk_cell BK.out 2).trans rfl; have hc1_3 : w8.cell? ⟨g, 3, none⟩ = some (.bool true) := (blk_cell BK.out 3).trans rfl; have hc1_4 : w8.cell? ⟨g, 4, none⟩ = some (.string e) := (blk_cell BK.out 4).trans rfl; have hf1_0 := blk_frozen BK.out 0; have hf1_1 := blk_frozen BK.out 1; have hf1_2 := blk_frozen BK.out 2; have hf1_3 := blk_frozen BK.out 3; have hf1_4 := blk_frozen BK.out 4)) | (at_builtin; refine print_append_str (w0 := w) w.heap.size rfl (.tmp 23) _ 53 9 5 rfl Try.underlying53 Try.underlying9 info5 v1 y1 c rfl rfl ?aO ?aB ?aS ?aL ?_; (case aB => exact (by repeat (first | (with_reducible first | exact HB.out | apply below_alloc | apply pw_below_drewN | apply below_drew1 | refine below_set ?_ GE.out) | exact HB.out))); (case aO => exact (Kd.own_of_R (by (with_reducible repeat (first | apply Kd.R_alloc | apply Kd.R_drewN | apply Kd.R_drew)); exact HO1.out))); (case aS => exact (below_size (by repeat (first | (with_reducible first | exact HB.out | apply below_alloc | apply pw_below_drewN | apply below_drew1 | refine below_set ?_ GE.out) | exact HB.out)))); (case aL => have := L2.out; omega); intro v2 w10 ho0 hb hg; have ho := Kd.R_of_own (h1 := fun _ => rfl) (ok := fun _ => True) ho0 (fun _ _ => trivial); clear ho0; rw [← N2.out] at ho; have n0_ := Aside0.mk (blk_grown (g := g) (o := .cells #[.int .i64 a, .int .i64 b, .string c, .bool true, .string e] 39 (0, 0)) (by (with_reducible repeat (first | refine blk_drewN ?_ _ | refine blk_drew ?_ | refine blk_alloc ?_ _)); exact BK.out) hg (Kd.R_ne HO1.out BK.out (by decide))); have n1_ := Aside0.mk (hb); have n2_ := Aside0.mk (ho); clear BK; clear HB; clear HO1; have BK := n0_; have HB := n1_; have HO2 := n2_; clear n0_ n1_ n2_; clear ho hb hg; have hc2_0 : w10.cell? ⟨g, 0, none⟩ = some (.int .i64 a) := (blk_cell BK.out 0).trans rfl; have hc2_1 : w10.cell? ⟨g, 1, none⟩ = some (.int .i64 b) := (blk_cell BK.out 1).trans rfl; have hc2_2 : w10.cell? ⟨g, 2, none⟩ = some (.string c) := (blk_cell BK.out 2).trans rfl; have hc2_3 : w10.cell? ⟨g, 3, none⟩ = some (.bool true) := (blk_cell BK.out 3).trans rfl; have hc2_4 : w10.cell? ⟨g, 4, none⟩ = some (.string e) := (blk_cell BK.out 4).trans rfl; have hf2_0 := blk_frozen BK.out 0; have hf2_1 := blk_frozen BK.out 1; have hf2_2 := blk_frozen BK.out 2; have hf2_3 := blk_frozen BK.out 3; have hf2_4 := blk_frozen BK.out 4) | ((with_reducible refine gate_dst (N := 39) rfl ?_); (refine Kd.R_lit (Kd.int .u8) _ 5 ?hg (N := 39) ?hd (xs := ([1, (e.size : Int) / 256, (e.size : Int) % 256] : List Int)) (inner := [.int .u8 (1), .int .u8 ((e.size : Int) / 256), .int .u8 ((e.size : Int) % 256)]) (ok := fun _ => True) (okp := fun _ => True) ?hr ?hp (fun _ hk => hk) trivial (Below.refl _ _) (Nat.le_refl _) (by simp) ?_; (case hd => rfl); (case hg => rfl); (case hr => first | (go_simp; done) | (go_simp; rfl)); (case hp => exact (Reps.one (show Kd.M (Kd.int .u8) _ _ _ (1) [.int .u8 (1)] from rfl) (Reps.one (show Kd.M (Kd.int .u8) _ _ _ ((e.size : Int) / 256) [.int .u8 ((e.size : Int) / 256)] from rfl) (Reps.one (show Kd.M (Kd.int .u8) _ _ _ ((e.size : Int) % 256) [.int .u8 ((e.size : Int) % 256)] from rfl) (Reps.none _ _))))); intro v3 w12 ho hb hg_ hnew_; clear hg_ hnew_; (first | rw [← N3.out] at ho | (simp only [Int.reduceToNat] at ho; rw [← N3.out] at ho)); have n0_ := Aside0.mk (Kd.R_elder' (by (with_reducible repeat (first | apply Kd.R_alloc | apply Kd.R_drewN | apply Kd.R_drew)); exact HO2.out) (Kd.R_base ho) hb); have n1_ := Aside0.mk (Kd.R_lower (Kd.R_new' ho (Kd.R_lt (by (with_reducible repeat (first | apply Kd.R_alloc | apply Kd.R_drewN | apply Kd.R_drew)); exact HO2.out))) (below_size (by repeat (first | (with_reducible first | exact HB.out | apply below_alloc | apply pw_below_drewN | apply below_drew1 | refine below_set ?_ GE.out) | exact HB.out)))); have n2_ := Aside0.mk (blk_below (g := g) (o := .cells #[.int .i64 a, .int .i64 b, .string c, .bool true, .string e] 39 (0, 0)) (by (with_reducible repeat (first | refine blk_drewN ?_ _ | refine blk_drew ?_ | refine blk_alloc ?_ _)); exact BK.out) hb); have n3_ := Aside0.mk (below_step (by repeat (first | (with_reducible first | exact HB.out | apply below_alloc | apply pw_below_drewN | apply below_drew1 | refine below_set ?_ GE.out) | exact HB.out)) hb); clear HO2; clear BK; clear HB; have HO2 := n0_; have HO3 := n1_; have BK := n2_; have HB := n3_; clear n0_ n1_ n2_ n3_; clear hb ho; obtain ⟨Ao, co, eo⟩ := Kd.R_slice HO3.out; subst eo; have hc3_0 : w12.cell? ⟨g, 0, none⟩ = some (.int .i64 a) := (blk_cell BK.out 0).trans rfl; have hc3_1 : w12.cell? ⟨g, 1, none⟩ = some (.int .i64 b) := (blk_cell BK.out 1).trans rfl; have hc3_2 : w12.cell? ⟨g, 2, none⟩ = some (.string c) := (blk_cell BK.out 2).trans rfl; have hc3_3 : w12.cell? ⟨g, 3, none⟩ = some (.bool true) := (blk_cell BK.out 3).trans rfl; have hc3_4 : w12.cell? ⟨g, 4, none⟩ = some (.string e) := (blk_cell BK.out 4).trans rfl; have hf3_0 := blk_frozen BK.out 0; have hf3_1 := blk_frozen BK.out 1; have hf3_2 := blk_frozen BK.out 2; have hf3_3 := blk_frozen BK.out 3; have hf3_4 := blk_frozen BK.out 4)) | ((with_reducible refine gate_builtin (b := .append) (xs := #[.tmp 27, .tmp 39]) rfl ?_); at_builtin; refine Kd.R_append_rows (Kd.int .u8) (w0 := w) w.heap.size rfl (.tmp 27) (.tmp 39) 53 5 (.int .u8 0) 1 rfl Try.underlying53 info5 rfl (by decide) (by omega) v2 y2 y3 _ _ _ (fun k_ => some k_ ≠ (.slice Ao y3.length co : Value).ownBlock) (fun _ => False) rfl rfl ?aO ?aR (fun _ _ h => h) (fun _ h => h.elim) ?aF ?aB ?aS ?aL ?_; (case aR => repeat (first | exact (Kd.R_reads' HO3.out).2.2 | (with_reducible refine Kd.C_alloc ?_ _) | (with_reducible refine Kd.C_drewN ?_ _) | (with_reducible refine Kd.C_drew ?_))); (case aB => exact (by repeat (first | (with_reducible first | exact HB.out | apply below_alloc | apply pw_below_drewN | apply below_drew1 | refine below_set ?_ GE.out) | exact HB.out))); (case aF => exact (fun k_ hk => Kd.fresh' (Kd.R_lt (by (with_reducible repeat (first | apply Kd.R_alloc | apply Kd.R_drewN | apply Kd.R_drew)); exact HO3.out)) k_ hk)); (case aO => exact (by (with_reducible repeat (first | apply Kd.R_alloc | apply Kd.R_drewN | apply Kd.R_drew)); exact Kd.R_mono HO2.out (fun _ hk => hk.2))); (case aS => exact (below_size (by repeat (first | (with_reducible first | exact HB.out | apply below_alloc | apply pw_below_drewN | apply below_drew1 | refine below_set ?_ GE.out) | exact HB.out)))); (case aL => have := L4.out; omega); intro v4 w14 ho hb hg hat; rw [← N4.out] at ho; have n0_ := Aside0.mk (blk_grown (g := g) (o := .cells #[.int .i64 a, .int .i64 b, .string c, .bool true, .string e] 39 (0, 0)) (by (with_reducible repeat (first | refine blk_drewN ?_ _ | refine blk_drew ?_ | refine blk_alloc ?_ _)); exact BK.out) hg (Kd.R_ne HO2.out BK.out (by decide))); have n1_ := Aside0.mk (Kd.R_after (ok := (fun _ => True)) (by (with_reducible repeat (first | apply Kd.R_alloc | apply Kd.R_drewN | apply Kd.R_drew)); exact HO3.out) hg hat); have n2_ := Aside0.mk (hb); have n3_ := Aside0.mk (Kd.R_mono (ok' := fun _ => True) ho (fun _ _ => trivial)); clear BK; clear HO3; clear HB; clear HO2; have BK := n0_; have HB := n2_; have HO4 := n3_; clear n0_ n1_ n2_ n3_; clear ho hb hg hat; have hcv := own_string (P := Try.prog) Try.underlying53 Try.underlying5 Try.underlying9 (Kd.own_of_R HO4.out); have hc4_0 : w14.cell? ⟨g, 0, none⟩ = some (.int .i64 a) := (blk_cell BK.out 0).trans rfl; have hc4_1 : w14.cell? ⟨g, 1, none⟩ = some (.int .i64 b) := (blk_cell BK.out 1).trans rfl; have hc4_2 : w14.cell? ⟨g, 2, none⟩ = some (.string c) := (blk_cell BK.out 2).trans rfl; have hc4_3 : w14.cell? ⟨g, 3, none⟩ = some (.bool true) := (blk_cell BK.out 3).trans rfl; have hc4_4 : w14.cell? ⟨g, 4, none⟩ = some (.string e) := (blk_cell BK.out 4).trans rfl; have hf4_0 := blk_frozen BK.out 0; have hf4_1 := blk_frozen BK.out 1; have hf4_2 := blk_frozen BK.out 2; have hf4_3 := blk_frozen BK.out 3; have hf4_4 := blk_frozen BK.out 4))
    go_ret
    exact ⟨congrArg (fun x => Ending.returned (Value.string x)) (HR2.out), (by repeat (first | (with_reducible first | exact HB.out | apply below_alloc | apply pw_below_drewN | apply below_drew1 | refine below_set ?_ GE.out) | exact HB.out))⟩
set_option maxHeartbeats 8000000 in
set_option maxRecDepth 100000 in
theorem body_calls (a b : Int) (c : ByteArray) (d : Bool) (e : ByteArray) (w : World) (ha : 1 ≤ a ∧ a ≤ 7) (hb0 : 0 ≤ b ∧ b ≤ 1000) (hc : (c.size : Int) ≤ 40) (he : (e.size : Int) ≤ 4000) :
    Calls Try.prog 80 #[.agg #[.int .i64 a, .int .i64 b, .string c, .bool d, .string e]] w fun e' w' => e' = .returned (.string (wrL a b c d e)) ∧ Below w.heap.size w w' := by
  have hu39 := Try.underlying39
  cases d
  · obtain ⟨y1, hy1⟩ : ∃ y : List Int, y = [74, a, b / 256, b % 256, (c.size : Int)] := ⟨_, rfl⟩
    obtain ⟨y2, hy2⟩ : ∃ y : List Int, y = y1 ++ bytesOf c := ⟨_, rfl⟩
    obtain ⟨y3, hy3⟩ : ∃ y : List Int, y = [0, (e.size : Int) / 256, (e.size : Int) % 256] := ⟨_, rfl⟩
    obtain ⟨y4, hy4⟩ : ∃ y : List Int, y = y2 ++ y3 := ⟨_, rfl⟩
    obtain ⟨y5, hy5⟩ : ∃ y : List Int, y = y4 ++ bytesOf e := ⟨_, rfl⟩
    have hbc := bytesOf_length c
    have hbe := bytesOf_length e
    have l1 : y1.length = 5 := by rw [hy1]; rfl
    have l2 : y2.length = 5 + c.size := by rw [hy2, List.length_append, l1, hbc]
    have l3 : y3.length = 3 := by rw [hy3]; rfl
    have l4 : y4.length = 8 + c.size := by rw [hy4, List.length_append, l2, l3]; omega
    have hres : strOfNums y5 = wrL a b c false e := by
      rw [hy5, hy4, hy3, hy2, hy1]; rfl
    have hres2 : strOfNums y4 ++ e = wrL a b c false e := by
      rw [← hres, hy5, strOfNums_append]
    have L2 := Aside0.mk (show y1.length + c.size < 140737488355328 by omega)
    have L4 := Aside0.mk (show y2.length + y3.length < 140737488355328 by omega)
    have L5 := Aside0.mk (show y4.length + e.size < 140737488355328 by omega)
    have hno : (9223372036854775807 < (strOfNums y4).size + e.size) = False := eq_false (by rw [strOfNums_size]; omega)
    have N1 := Aside0.mk hy1
    have N2 := Aside0.mk hy2
    have N3 := Aside0.mk hy3
    have N4 := Aside0.mk hy4
    have N5 := Aside0.mk hy5
    have HR := Aside0.mk hres
    have HR2 := Aside0.mk hres2
    clear hy1 hy2 hy3 hy4 hy5 l1 l2 l3 l4 hbc hbe hres hres2
    go_enter Try.func80, Try.ntmps80
    go_wp2_with (first | ((with_reducible refine gate_dst (N := 1) rfl ?_); refine box_event ?hg (N := 1) ?hd (cs := #[.int .i64 a, .int .i64 b, .string c, .bool false, .string e]) (t := 39) ?hr ?_; (case hd => rfl); (case hg => rfl); (case hr => first | (go_simp; done) | (go_simp; rfl)); intro g hg w6 hbox hb; have GE := Aside0.mk (Nat.le_of_eq hg.symm); have HB := Aside0.mk hb; have BK := Aside0.mk hbox; clear hg hbox hb; have hc0_0 : w6.cell? ⟨g, 0, none⟩ = some (.int .i64 a) := (blk_cell BK.out 0).trans rfl; have hc0_1 : w6.cell? ⟨g, 1, none⟩ = some (.int .i64 b) := (blk_cell BK.out 1).trans rfl; have hc0_2 : w6.cell? ⟨g, 2, none⟩ = some (.string c) := (blk_cell BK.out 2).trans rfl; have hc0_3 : w6.cell? ⟨g, 3, none⟩ = some (.bool false) := (blk_cell BK.out 3).trans rfl; have hc0_4 : w6.cell? ⟨g, 4, none⟩ = some (.string e) := (blk_cell BK.out 4).trans rfl; have hf0_0 := blk_frozen BK.out 0; have hf0_1 := blk_frozen BK.out 1; have hf0_2 := blk_frozen BK.out 2; have hf0_3 := blk_frozen BK.out 3; have hf0_4 := blk_frozen BK.out 4) | ((with_reducible refine gate_dst (N := 21) rfl ?_); (refine Kd.R_lit (Kd.int .u8) _ 5 ?hg (N := 21) ?hd (xs := ([74, a, b / 256, b % 256, (c.size : Int)] : List Int)) (inner := [.int .u8 (74), .int .u8 (a), .int .u8 (b / 256), .int .u8 (b % 256), .int .u8 ((c.size : Int))]) (ok := fun _ => True) (okp := fun _ => True) ?hr ?hp (fun _ hk => hk) trivial (Below.refl _ _) (Nat.le_refl _) (by simp) ?_; (case hd => rfl); (case hg => rfl); (case hr => first | (go_simp; done) | (go_simp; rfl)); (case hp => exact (Reps.one (show Kd.M (Kd.int .u8) _ _ _ (74) [.int .u8 (74)] from rfl) (Reps.one (show Kd.M (Kd.int .u8) _ _ _ (a) [.int .u8 (a)] from rfl) (Reps.one (show Kd.M (Kd.int .u8) _ _ _ (b / 256) [.int .u8 (b / 256)] from rfl) (Reps.one (show Kd.M (Kd.int .u8) _ _ _ (b % 256) [.int .u8 (b % 256)] from rfl) (Reps.one (show Kd.M (Kd.int .u8) _ _ _ ((c.size : Int)) [.int .u8 ((c.size : Int))] from rfl) (Reps.none _ _))))))); intro v1 w8 ho hb hg_ hnew_; clear hg_ hnew_; (first | rw [← N1.out] at ho | (simp only [Int.reduceToNat] at ho; rw [← N1.out] at ho)); have n0_ := Aside0.mk (Kd.R_lower ho (below_size (by repeat (first | (with_reducible first | exact HB.out | apply below_alloc | apply pw_below_drewN | apply below_drew1 | refine below_set ?_ GE.out) | exact HB.out)))); have n1_ := Aside0.mk (blk_below (g := g) (o := .cells #[.int .i64 a, .int .i64 b, .string c, .bool false, .string e] 39 (0, 0)) (by (with_reducible repeat (first | refine blk_drewN ?_ _ | refine blk_drew ?_ | refine blk_alloc ?_ _)); exact BK.out) hb); have n2_ := Aside0.mk (below_step (by repeat (first | (with_reducible first | exact HB.out | apply below_alloc | apply pw_below_drewN | apply below_drew1 | refine below_set ?_ GE.out) | exact HB.out)) hb); clear BK; clear HB; have HO1 := n0_; have BK := n1_; have HB := n2_; clear n0_ n1_ n2_; clear hb ho; have hc1_0 : w8.cell? ⟨g, 0, none⟩ = some (.int .i64 a) := (blk_cell BK.out 0).trans rfl; have hc1_1 : w8.cell? ⟨g, 1, none⟩ = some (.int .i64 b) := (blk_cell BK.out 1).trans rfl; have hc1_2 : w8.cell? ⟨g, 2, none⟩ = some (.string c) := (blk_cell BK.out 2).trans rfl; have hc1_3 : w8.cell? ⟨g, 3, none⟩ = some (.bool false) := (blk_cell BK.out 3).trans rfl; have hc1_4 : w8.cell? ⟨g, 4, none⟩ = some (.string e) := (blk_cell BK.out 4).trans rfl; have hf1_0 := blk_frozen BK.out 0; have hf1_1 := blk_frozen BK.out 1; have hf1_2 := blk_frozen BK.out 2; have hf1_3 := blk_frozen BK.out 3; have hf1_4 := blk_frozen BK.out 4)) | (at_builtin; refine print_append_str (w0 := w) w.heap.size rfl (.tmp 22) _ 53 9 5 rfl Try.underlying53 Try.underlying9 info5 v1 y1 c rfl rfl ?aO ?aB ?aS ?aL ?_; (case aB => exact (by repeat (first | (with_reducible first | exact HB.out | apply below_alloc | apply pw_below_drewN | apply below_drew1 | refine below_set ?_ GE.out) | exact HB.out))); (case aO => exact (Kd.own_of_R (by (with_reducible repeat (first | apply Kd.R_alloc | apply Kd.R_drewN | apply Kd.R_drew)); exact HO1.out))); (case aS => exact (below_size (by repeat (first | (with_reducible first | exact HB.out | apply below_alloc | apply pw_below_drewN | apply below_drew1 | refine below_set ?_ GE.out) | exact HB.out)))); (case aL => have := L2.out; omega); intro v2 w10 ho0 hb hg; have ho := Kd.R_of_own (h1 := fun _ => rfl) (ok := fun _ => True) ho0 (fun _ _ => trivial); clear ho0; rw [← N2.out] at ho; have n0_ := Aside0.mk (blk_grown (g := g) (o := .cells #[.int .i64 a, .int .i64 b, .string c, .bool false, .string e] 39 (0, 0)) (by (with_reducible repeat (first | refine blk_drewN ?_ _ | refine blk_drew ?_ | refine blk_alloc ?_ _)); exact BK.out) hg (Kd.R_ne HO1.out BK.out (by decide))); have n1_ := Aside0.mk (hb); have n2_ := Aside0.mk (ho); clear BK; clear HB; clear HO1; have BK := n0_; have HB := n1_; have HO2 := n2_; clear n0_ n1_ n2_; clear ho hb hg; have hc2_0 : w10.cell? ⟨g, 0, none⟩ = some (.int .i64 a) := (blk_cell BK.out 0).trans rfl; have hc2_1 : w10.cell? ⟨g, 1, none⟩ = some (.int .i64 b) := (blk_cell BK.out 1).trans rfl; have hc2_2 : w10.cell? ⟨g, 2, none⟩ = some (.string c) := (blk_cell BK.out 2).trans rfl; have hc2_3 : w10.cell? ⟨g, 3, none⟩ = some (.bool false) := (blk_cell BK.out 3).trans rfl; have hc2_4 : w10.cell? ⟨g, 4, none⟩ = some (.string e) := (blk_cell BK.out 4).trans rfl; have hf2_0 := blk_frozen BK.out 0; have hf2_1 := blk_frozen BK.out 1; have hf2_2 := blk_frozen BK.out 2; have hf2_3 := blk_frozen BK.out 3; have hf2_4 := blk_frozen BK.out 4) | ((with_reducible refine gate_dst (N := 37) rfl ?_); (refine Kd.R_lit (Kd.int .u8) _ 5 ?hg (N := 37) ?hd (xs := ([0, (e.size : Int) / 256, (e.size : Int) % 256] : List Int)) (inner := [.int .u8 (0), .int .u8 ((e.size : Int) / 256), .int .u8 ((e.size : Int) % 256)]) (ok := fun _ => True) (okp := fun _ => True) ?hr ?hp (fun _ hk => hk) trivial (Below.refl _ _) (Nat.le_refl _) (by simp) ?_; (case hd => rfl); (case hg => rfl); (case hr => first | (go_simp; done) | (go_simp; rfl)); (case hp => exact (Reps.one (show Kd.M (Kd.int .u8) _ _ _ (0) [.int .u8 (0)] from rfl) (Reps.one (show Kd.M (Kd.int .u8) _ _ _ ((e.size : Int) / 256) [.int .u8 ((e.size : Int) / 256)] from rfl) (Reps.one (show Kd.M (Kd.int .u8) _ _ _ ((e.size : Int) % 256) [.int .u8 ((e.size : Int) % 256)] from rfl) (Reps.none _ _))))); intro v3 w12 ho hb hg_ hnew_; clear hg_ hnew_; (first | rw [← N3.out] at ho | (simp only [Int.reduceToNat] at ho; rw [← N3.out] at ho)); have n0_ := Aside0.mk (Kd.R_elder' (by (with_reducible repeat (first | apply Kd.R_alloc | apply Kd.R_drewN | apply Kd.R_drew)); exact HO2.out) (Kd.R_base ho) hb); have n1_ := Aside0.mk (Kd.R_lower (Kd.R_new' ho (Kd.R_lt (by (with_reducible repeat (first | apply Kd.R_alloc | apply Kd.R_drewN | apply Kd.R_drew)); exact HO2.out))) (below_size (by repeat (first | (with_reducible first | exact HB.out | apply below_alloc | apply pw_below_drewN | apply below_drew1 | refine below_set ?_ GE.out) | exact HB.out)))); have n2_ := Aside0.mk (blk_below (g := g) (o := .cells #[.int .i64 a, .int .i64 b, .string c, .bool false, .string e] 39 (0, 0)) (by (with_reducible repeat (first | refine blk_drewN ?_ _ | refine blk_drew ?_ | refine blk_alloc ?_ _)); exact BK.out) hb); have n3_ := Aside0.mk (below_step (by repeat (first | (with_reducible first | exact HB.out | apply below_alloc | apply pw_below_drewN | apply below_drew1 | refine below_set ?_ GE.out) | exact HB.out)) hb); clear HO2; clear BK; clear HB; have HO2 := n0_; have HO3 := n1_; have BK := n2_; have HB := n3_; clear n0_ n1_ n2_ n3_; clear hb ho; obtain ⟨Ao, co, eo⟩ := Kd.R_slice HO3.out; subst eo; have hc3_0 : w12.cell? ⟨g, 0, none⟩ = some (.int .i64 a) := (blk_cell BK.out 0).trans rfl; have hc3_1 : w12.cell? ⟨g, 1, none⟩ = some (.int .i64 b) := (blk_cell BK.out 1).trans rfl; have hc3_2 : w12.cell? ⟨g, 2, none⟩ = some (.string c) := (blk_cell BK.out 2).trans rfl; have hc3_3 : w12.cell? ⟨g, 3, none⟩ = some (.bool false) := (blk_cell BK.out 3).trans rfl; have hc3_4 : w12.cell? ⟨g, 4, none⟩ = some (.string e) := (blk_cell BK.out 4).trans rfl; have hf3_0 := blk_frozen BK.out 0; have hf3_1 := blk_frozen BK.out 1; have hf3_2 := blk_frozen BK.out 2; have hf3_3 := blk_frozen BK.out 3; have hf3_4 := blk_frozen BK.out 4)) | ((with_reducible refine gate_builtin (b := .append) (xs := #[.tmp 26, .tmp 37]) rfl ?_); at_builtin; refine Kd.R_append_rows (Kd.int .u8) (w0 := w) w.heap.size rfl (.tmp 26) (.tmp 37) 53 5 (.int .u8 0) 1 rfl Try.underlying53 info5 rfl (by decide) (by omega) v2 y2 y3 _ _ _ (fun k_ => some k_ ≠ (.slice Ao y3.length co : Value).ownBlock) (fun _ => False) rfl rfl ?aO ?aR (fun _ _ h => h) (fun _ h => h.elim) ?aF ?aB ?aS ?aL ?_; (case aR => repeat (first | exact (Kd.R_reads' HO3.out).2.2 | (with_reducible refine Kd.C_alloc ?_ _) | (with_reducible refine Kd.C_drewN ?_ _) | (with_reducible refine Kd.C_drew ?_))); (case aB => exact (by repeat (first | (with_reducible first | exact HB.out | apply below_alloc | apply pw_below_drewN | apply below_drew1 | refine below_set ?_ GE.out) | exact HB.out))); (case aF => exact (fun k_ hk => Kd.fresh' (Kd.R_lt (by (with_reducible repeat (first | apply Kd.R_alloc | apply Kd.R_drewN | apply Kd.R_drew)); exact HO3.out)) k_ hk)); (case aO => exact (by (with_reducible repeat (first | apply Kd.R_alloc | apply Kd.R_drewN | apply Kd.R_drew)); exact Kd.R_mono HO2.out (fun _ hk => hk.2))); (case aS => exact (below_size (by repeat (first | (with_reducible first | exact HB.out | apply below_alloc | apply pw_below_drewN | apply below_drew1 | refine below_set ?_ GE.out) | exact HB.out)))); (case aL => have := L4.out; omega); intro v4 w14 ho hb hg hat; rw [← N4.out] at ho; have n0_ := Aside0.mk (blk_grown (g := g) (o := .cells #[.int .i64 a, .int .i64 b, .string c, .bool false, .string e] 39 (0, 0)) (by (with_reducible repeat (first | refine blk_drewN ?_ _ | refine blk_drew ?_ | refine blk_alloc ?_ _)); exact BK.out) hg (Kd.R_ne HO2.out BK.out (by decide))); have n1_ := Aside0.mk (Kd.R_after (ok := (fun _ => True)) (by (with_reducible repeat (first | apply Kd.R_alloc | apply Kd.R_drewN | apply Kd.R_drew)); exact HO3.out) hg hat); have n2_ := Aside0.mk (hb); have n3_ := Aside0.mk (Kd.R_mono (ok' := fun _ => True) ho (fun _ _ => trivial)); clear BK; clear HO3; clear HB; clear HO2; have BK := n0_; have HB := n2_; have HO4 := n3_; clear n0_ n1_ n2_ n3_; clear ho hb hg hat; have hc4_0 : w14.cell? ⟨g, 0, none⟩ = some (.int .i64 a) := (blk_cell BK.out 0).trans rfl; have hc4_1 : w14.cell? ⟨g, 1, none⟩ = some (.int .i64 b) := (blk_cell BK.out 1).trans rfl; have hc4_2 : w14.cell? ⟨g, 2, none⟩ = some (.string c) := (blk_cell BK.out 2).trans rfl; have hc4_3 : w14.cell? ⟨g, 3, none⟩ = some (.bool false) := (blk_cell BK.out 3).trans rfl; have hc4_4 : w14.cell? ⟨g, 4, none⟩ = some (.string e) := (blk_cell BK.out 4).trans rfl; have hf4_0 := blk_frozen BK.out 0; have hf4_1 := blk_frozen BK.out 1; have hf4_2 := blk_frozen BK.out 2; have hf4_3 := blk_frozen BK.out 3; have hf4_4 := blk_frozen BK.out 4) | (at_builtin; refine print_append_str (w0 := w) w.heap.size rfl (.tmp 39) _ 53 9 5 rfl Try.underlying53 Try.underlying9 info5 v4 y4 e rfl rfl ?aO ?aB ?aS ?aL ?_; (case aB => exact (by repeat (first | (with_reducible first | exact HB.out | apply below_alloc | apply pw_below_drewN | apply below_drew1 | refine below_set ?_ GE.out) | exact HB.out))); (case aO => exact (Kd.own_of_R (by (with_reducible repeat (first | apply Kd.R_alloc | apply Kd.R_drewN | apply Kd.R_drew)); exact HO4.out))); (case aS => exact (below_size (by repeat (first | (with_reducible first | exact HB.out | apply below_alloc | apply pw_below_drewN | apply below_drew1 | refine below_set ?_ GE.out) | exact HB.out)))); (case aL => have := L5.out; omega); intro v5 w16 ho0 hb hg; have ho := Kd.R_of_own (h1 := fun _ => rfl) (ok := fun _ => True) ho0 (fun _ _ => trivial); clear ho0; rw [← N5.out] at ho; have n0_ := Aside0.mk (blk_grown (g := g) (o := .cells #[.int .i64 a, .int .i64 b, .string c, .bool false, .string e] 39 (0, 0)) (by (with_reducible repeat (first | refine blk_drewN ?_ _ | refine blk_drew ?_ | refine blk_alloc ?_ _)); exact BK.out) hg (Kd.R_ne HO4.out BK.out (by decide))); have n1_ := Aside0.mk (hb); have n2_ := Aside0.mk (ho); clear BK; clear HB; clear HO4; have BK := n0_; have HB := n1_; have HO5 := n2_; clear n0_ n1_ n2_; clear ho hb hg; have hcv := own_string (P := Try.prog) Try.underlying53 Try.underlying5 Try.underlying9 (Kd.own_of_R HO5.out)))
    go_ret
    exact ⟨congrArg (fun x => Ending.returned (Value.string x)) (HR.out), (by repeat (first | (with_reducible first | exact HB.out | apply below_alloc | apply pw_below_drewN | apply below_drew1 | refine below_set ?_ GE.out) | exact HB.out))⟩
  · obtain ⟨y1, hy1⟩ : ∃ y : List Int, y = [74, a, b / 256, b % 256, (c.size : Int)] := ⟨_, rfl⟩
    obtain ⟨y2, hy2⟩ : ∃ y : List Int, y = y1 ++ bytesOf c := ⟨_, rfl⟩
    obtain ⟨y3, hy3⟩ : ∃ y : List Int, y = [1, (e.size : Int) / 256, (e.size : Int) % 256] := ⟨_, rfl⟩
    obtain ⟨y4, hy4⟩ : ∃ y : List Int, y = y2 ++ y3 := ⟨_, rfl⟩
    obtain ⟨y5, hy5⟩ : ∃ y : List Int, y = y4 ++ bytesOf e := ⟨_, rfl⟩
    have hbc := bytesOf_length c
    have hbe := bytesOf_length e
    have l1 : y1.length = 5 := by rw [hy1]; rfl
    have l2 : y2.length = 5 + c.size := by rw [hy2, List.length_append, l1, hbc]
    have l3 : y3.length = 3 := by rw [hy3]; rfl
    have l4 : y4.length = 8 + c.size := by rw [hy4, List.length_append, l2, l3]; omega
    have hres : strOfNums y5 = wrL a b c true e := by
      rw [hy5, hy4, hy3, hy2, hy1]; rfl
    have hres2 : strOfNums y4 ++ e = wrL a b c true e := by
      rw [← hres, hy5, strOfNums_append]
    have L2 := Aside0.mk (show y1.length + c.size < 140737488355328 by omega)
    have L4 := Aside0.mk (show y2.length + y3.length < 140737488355328 by omega)
    have L5 := Aside0.mk (show y4.length + e.size < 140737488355328 by omega)
    have hno : (9223372036854775807 < (strOfNums y4).size + e.size) = False := eq_false (by rw [strOfNums_size]; omega)
    have N1 := Aside0.mk hy1
    have N2 := Aside0.mk hy2
    have N3 := Aside0.mk hy3
    have N4 := Aside0.mk hy4
    have N5 := Aside0.mk hy5
    have HR := Aside0.mk hres
    have HR2 := Aside0.mk hres2
    clear hy1 hy2 hy3 hy4 hy5 l1 l2 l3 l4 hbc hbe hres hres2
    go_enter Try.func80, Try.ntmps80
    go_wp2_with (first | ((with_reducible refine gate_dst (N := 1) rfl ?_); refine box_event ?hg (N := 1) ?hd (cs := #[.int .i64 a, .int .i64 b, .string c, .bool true, .string e]) (t := 39) ?hr ?_; (case hd => rfl); (case hg => rfl); (case hr => first | (go_simp; done) | (go_simp; rfl)); intro g hg w6 hbox hb; have GE := Aside0.mk (Nat.le_of_eq hg.symm); have HB := Aside0.mk hb; have BK := Aside0.mk hbox; clear hg hbox hb; have hc0_0 : w6.cell? ⟨g, 0, none⟩ = some (.int .i64 a) := (blk_cell BK.out 0).trans rfl; have hc0_1 : w6.cell? ⟨g, 1, none⟩ = some (.int .i64 b) := (blk_cell BK.out 1).trans rfl; have hc0_2 : w6.cell? ⟨g, 2, none⟩ = some (.string c) := (blk_cell BK.out 2).trans rfl; have hc0_3 : w6.cell? ⟨g, 3, none⟩ = some (.bool true) := (blk_cell BK.out 3).trans rfl; have hc0_4 : w6.cell? ⟨g, 4, none⟩ = some (.string e) := (blk_cell BK.out 4).trans rfl; have hf0_0 := blk_frozen BK.out 0; have hf0_1 := blk_frozen BK.out 1; have hf0_2 := blk_frozen BK.out 2; have hf0_3 := blk_frozen BK.out 3; have hf0_4 := blk_frozen BK.out 4) | ((with_reducible refine gate_dst (N := 21) rfl ?_); (refine Kd.R_lit (Kd.int .u8) _ 5 ?hg (N := 21) ?hd (xs := ([74, a, b / 256, b % 256, (c.size : Int)] : List Int)) (inner := [.int .u8 (74), .int .u8 (a), .int .u8 (b / 256), .int .u8 (b % 256), .int .u8 ((c.size : Int))]) (ok := fun _ => True) (okp := fun _ => True) ?hr ?hp (fun _ hk => hk) trivial (Below.refl _ _) (Nat.le_refl _) (by simp) ?_; (case hd => rfl); (case hg => rfl); (case hr => first | (go_simp; done) | (go_simp; rfl)); (case hp => exact (Reps.one (show Kd.M (Kd.int .u8) _ _ _ (74) [.int .u8 (74)] from rfl) (Reps.one (show Kd.M (Kd.int .u8) _ _ _ (a) [.int .u8 (a)] from rfl) (Reps.one (show Kd.M (Kd.int .u8) _ _ _ (b / 256) [.int .u8 (b / 256)] from rfl) (Reps.one (show Kd.M (Kd.int .u8) _ _ _ (b % 256) [.int .u8 (b % 256)] from rfl) (Reps.one (show Kd.M (Kd.int .u8) _ _ _ ((c.size : Int)) [.int .u8 ((c.size : Int))] from rfl) (Reps.none _ _))))))); intro v1 w8 ho hb hg_ hnew_; clear hg_ hnew_; (first | rw [← N1.out] at ho | (simp only [Int.reduceToNat] at ho; rw [← N1.out] at ho)); have n0_ := Aside0.mk (Kd.R_lower ho (below_size (by repeat (first | (with_reducible first | exact HB.out | apply below_alloc | apply pw_below_drewN | apply below_drew1 | refine below_set ?_ GE.out) | exact HB.out)))); have n1_ := Aside0.mk (blk_below (g := g) (o := .cells #[.int .i64 a, .int .i64 b, .string c, .bool true, .string e] 39 (0, 0)) (by (with_reducible repeat (first | refine blk_drewN ?_ _ | refine blk_drew ?_ | refine blk_alloc ?_ _)); exact BK.out) hb); have n2_ := Aside0.mk (below_step (by repeat (first | (with_reducible first | exact HB.out | apply below_alloc | apply pw_below_drewN | apply below_drew1 | refine below_set ?_ GE.out) | exact HB.out)) hb); clear BK; clear HB; have HO1 := n0_; have BK := n1_; have HB := n2_; clear n0_ n1_ n2_; clear hb ho; have hc1_0 : w8.cell? ⟨g, 0, none⟩ = some (.int .i64 a) := (blk_cell BK.out 0).trans rfl; have hc1_1 : w8.cell? ⟨g, 1, none⟩ = some (.int .i64 b) := (blk_cell BK.out 1).trans rfl; have hc1_2 : w8.cell? ⟨g, 2, none⟩ = some (.string c) := (blk_cell BK.out 2).trans rfl; have hc1_3 : w8.cell? ⟨g, 3, none⟩ = some (.bool true) := (blk_cell BK.out 3).trans rfl; have hc1_4 : w8.cell? ⟨g, 4, none⟩ = some (.string e) := (blk_cell BK.out 4).trans rfl; have hf1_0 := blk_frozen BK.out 0; have hf1_1 := blk_frozen BK.out 1; have hf1_2 := blk_frozen BK.out 2; have hf1_3 := blk_frozen BK.out 3; have hf1_4 := blk_frozen BK.out 4)) | (at_builtin; refine print_append_str (w0 := w) w.heap.size rfl (.tmp 22) _ 53 9 5 rfl Try.underlying53 Try.underlying9 info5 v1 y1 c rfl rfl ?aO ?aB ?aS ?aL ?_; (case aB => exact (by repeat (first | (with_reducible first | exact HB.out | apply below_alloc | apply pw_below_drewN | apply below_drew1 | refine below_set ?_ GE.out) | exact HB.out))); (case aO => exact (Kd.own_of_R (by (with_reducible repeat (first | apply Kd.R_alloc | apply Kd.R_drewN | apply Kd.R_drew)); exact HO1.out))); (case aS => exact (below_size (by repeat (first | (with_reducible first | exact HB.out | apply below_alloc | apply pw_below_drewN | apply below_drew1 | refine below_set ?_ GE.out) | exact HB.out)))); (case aL => have := L2.out; omega); intro v2 w10 ho0 hb hg; have ho := Kd.R_of_own (h1 := fun _ => rfl) (ok := fun _ => True) ho0 (fun _ _ => trivial); clear ho0; rw [← N2.out] at ho; have n0_ := Aside0.mk (blk_grown (g := g) (o := .cells #[.int .i64 a, .int .i64 b, .string c, .bool true, .string e] 39 (0, 0)) (by (with_reducible repeat (first | refine blk_drewN ?_ _ | refine blk_drew ?_ | refine blk_alloc ?_ _)); exact BK.out) hg (Kd.R_ne HO1.out BK.out (by decide))); have n1_ := Aside0.mk (hb); have n2_ := Aside0.mk (ho); clear BK; clear HB; clear HO1; have BK := n0_; have HB := n1_; have HO2 := n2_; clear n0_ n1_ n2_; clear ho hb hg; have hc2_0 : w10.cell? ⟨g, 0, none⟩ = some (.int .i64 a) := (blk_cell BK.out 0).trans rfl; have hc2_1 : w10.cell? ⟨g, 1, none⟩ = some (.int .i64 b) := (blk_cell BK.out 1).trans rfl; have hc2_2 : w10.cell? ⟨g, 2, none⟩ = some (.string c) := (blk_cell BK.out 2).trans rfl; have hc2_3 : w10.cell? ⟨g, 3, none⟩ = some (.bool true) := (blk_cell BK.out 3).trans rfl; have hc2_4 : w10.cell? ⟨g, 4, none⟩ = some (.string e) := (blk_cell BK.out 4).trans rfl; have hf2_0 := blk_frozen BK.out 0; have hf2_1 := blk_frozen BK.out 1; have hf2_2 := blk_frozen BK.out 2; have hf2_3 := blk_frozen BK.out 3; have hf2_4 := blk_frozen BK.out 4) | ((with_reducible refine gate_dst (N := 37) rfl ?_); (refine Kd.R_lit (Kd.int .u8) _ 5 ?hg (N := 37) ?hd (xs := ([1, (e.size : Int) / 256, (e.size : Int) % 256] : List Int)) (inner := [.int .u8 (1), .int .u8 ((e.size : Int) / 256), .int .u8 ((e.size : Int) % 256)]) (ok := fun _ => True) (okp := fun _ => True) ?hr ?hp (fun _ hk => hk) trivial (Below.refl _ _) (Nat.le_refl _) (by simp) ?_; (case hd => rfl); (case hg => rfl); (case hr => first | (go_simp; done) | (go_simp; rfl)); (case hp => exact (Reps.one (show Kd.M (Kd.int .u8) _ _ _ (1) [.int .u8 (1)] from rfl) (Reps.one (show Kd.M (Kd.int .u8) _ _ _ ((e.size : Int) / 256) [.int .u8 ((e.size : Int) / 256)] from rfl) (Reps.one (show Kd.M (Kd.int .u8) _ _ _ ((e.size : Int) % 256) [.int .u8 ((e.size : Int) % 256)] from rfl) (Reps.none _ _))))); intro v3 w12 ho hb hg_ hnew_; clear hg_ hnew_; (first | rw [← N3.out] at ho | (simp only [Int.reduceToNat] at ho; rw [← N3.out] at ho)); have n0_ := Aside0.mk (Kd.R_elder' (by (with_reducible repeat (first | apply Kd.R_alloc | apply Kd.R_drewN | apply Kd.R_drew)); exact HO2.out) (Kd.R_base ho) hb); have n1_ := Aside0.mk (Kd.R_lower (Kd.R_new' ho (Kd.R_lt (by (with_reducible repeat (first | apply Kd.R_alloc | apply Kd.R_drewN | apply Kd.R_drew)); exact HO2.out))) (below_size (by repeat (first | (with_reducible first | exact HB.out | apply below_alloc | apply pw_below_drewN | apply below_drew1 | refine below_set ?_ GE.out) | exact HB.out)))); have n2_ := Aside0.mk (blk_below (g := g) (o := .cells #[.int .i64 a, .int .i64 b, .string c, .bool true, .string e] 39 (0, 0)) (by (with_reducible repeat (first | refine blk_drewN ?_ _ | refine blk_drew ?_ | refine blk_alloc ?_ _)); exact BK.out) hb); have n3_ := Aside0.mk (below_step (by repeat (first | (with_reducible first | exact HB.out | apply below_alloc | apply pw_below_drewN | apply below_drew1 | refine below_set ?_ GE.out) | exact HB.out)) hb); clear HO2; clear BK; clear HB; have HO2 := n0_; have HO3 := n1_; have BK := n2_; have HB := n3_; clear n0_ n1_ n2_ n3_; clear hb ho; obtain ⟨Ao, co, eo⟩ := Kd.R_slice HO3.out; subst eo; have hc3_0 : w12.cell? ⟨g, 0, none⟩ = some (.int .i64 a) := (blk_cell BK.out 0).trans rfl; have hc3_1 : w12.cell? ⟨g, 1, none⟩ = some (.int .i64 b) := (blk_cell BK.out 1).trans rfl; have hc3_2 : w12.cell? ⟨g, 2, none⟩ = some (.string c) := (blk_cell BK.out 2).trans rfl; have hc3_3 : w12.cell? ⟨g, 3, none⟩ = some (.bool true) := (blk_cell BK.out 3).trans rfl; have hc3_4 : w12.cell? ⟨g, 4, none⟩ = some (.string e) := (blk_cell BK.out 4).trans rfl; have hf3_0 := blk_frozen BK.out 0; have hf3_1 := blk_frozen BK.out 1; have hf3_2 := blk_frozen BK.out 2; have hf3_3 := blk_frozen BK.out 3; have hf3_4 := blk_frozen BK.out 4)) | ((with_reducible refine gate_builtin (b := .append) (xs := #[.tmp 26, .tmp 37]) rfl ?_); at_builtin; refine Kd.R_append_rows (Kd.int .u8) (w0 := w) w.heap.size rfl (.tmp 26) (.tmp 37) 53 5 (.int .u8 0) 1 rfl Try.underlying53 info5 rfl (by decide) (by omega) v2 y2 y3 _ _ _ (fun k_ => some k_ ≠ (.slice Ao y3.length co : Value).ownBlock) (fun _ => False) rfl rfl ?aO ?aR (fun _ _ h => h) (fun _ h => h.elim) ?aF ?aB ?aS ?aL ?_; (case aR => repeat (first | exact (Kd.R_reads' HO3.out).2.2 | (with_reducible refine Kd.C_alloc ?_ _) | (with_reducible refine Kd.C_drewN ?_ _) | (with_reducible refine Kd.C_drew ?_))); (case aB => exact (by repeat (first | (with_reducible first | exact HB.out | apply below_alloc | apply pw_below_drewN | apply below_drew1 | refine below_set ?_ GE.out) | exact HB.out))); (case aF => exact (fun k_ hk => Kd.fresh' (Kd.R_lt (by (with_reducible repeat (first | apply Kd.R_alloc | apply Kd.R_drewN | apply Kd.R_drew)); exact HO3.out)) k_ hk)); (case aO => exact (by (with_reducible repeat (first | apply Kd.R_alloc | apply Kd.R_drewN | apply Kd.R_drew)); exact Kd.R_mono HO2.out (fun _ hk => hk.2))); (case aS => exact (below_size (by repeat (first | (with_reducible first | exact HB.out | apply below_alloc | apply pw_below_drewN | apply below_drew1 | refine below_set ?_ GE.out) | exact HB.out)))); (case aL => have := L4.out; omega); intro v4 w14 ho hb hg hat; rw [← N4.out] at ho; have n0_ := Aside0.mk (blk_grown (g := g) (o := .cells #[.int .i64 a, .int .i64 b, .string c, .bool true, .string e] 39 (0, 0)) (by (with_reducible repeat (first | refine blk_drewN ?_ _ | refine blk_drew ?_ | refine blk_alloc ?_ _)); exact BK.out) hg (Kd.R_ne HO2.out BK.out (by decide))); have n1_ := Aside0.mk (Kd.R_after (ok := (fun _ => True)) (by (with_reducible repeat (first | apply Kd.R_alloc | apply Kd.R_drewN | apply Kd.R_drew)); exact HO3.out) hg hat); have n2_ := Aside0.mk (hb); have n3_ := Aside0.mk (Kd.R_mono (ok' := fun _ => True) ho (fun _ _ => trivial)); clear BK; clear HO3; clear HB; clear HO2; have BK := n0_; have HB := n2_; have HO4 := n3_; clear n0_ n1_ n2_ n3_; clear ho hb hg hat; have hc4_0 : w14.cell? ⟨g, 0, none⟩ = some (.int .i64 a) := (blk_cell BK.out 0).trans rfl; have hc4_1 : w14.cell? ⟨g, 1, none⟩ = some (.int .i64 b) := (blk_cell BK.out 1).trans rfl; have hc4_2 : w14.cell? ⟨g, 2, none⟩ = some (.string c) := (blk_cell BK.out 2).trans rfl; have hc4_3 : w14.cell? ⟨g, 3, none⟩ = some (.bool true) := (blk_cell BK.out 3).trans rfl; have hc4_4 : w14.cell? ⟨g, 4, none⟩ = some (.string e) := (blk_cell BK.out 4).trans rfl; have hf4_0 := blk_frozen BK.out 0; have hf4_1 := blk_frozen BK.out 1; have hf4_2 := blk_frozen BK.out 2; have hf4_3 := blk_frozen BK.out 3; have hf4_4 := blk_frozen BK.out 4) | (at_builtin; refine print_append_str (w0 := w) w.heap.size rfl (.tmp 39) _ 53 9 5 rfl Try.underlying53 Try.underlying9 info5 v4 y4 e rfl rfl ?aO ?aB ?aS ?aL ?_; (case aB => exact (by repeat (first | (with_reducible first | exact HB.out | apply below_alloc | apply pw_below_drewN | apply below_drew1 | refine below_set ?_ GE.out) | exact HB.out))); (case aO => exact (Kd.own_of_R (by (with_reducible repeat (first | apply Kd.R_alloc | apply Kd.R_drewN | apply Kd.R_drew)); exact HO4.out))); (case aS => exact (below_size (by repeat (first | (with_reducible first | exact HB.out | apply below_alloc | apply pw_below_drewN | apply below_drew1 | refine below_set ?_ GE.out) | exact HB.out)))); (case aL => have := L5.out; omega); intro v5 w16 ho0 hb hg; have ho := Kd.R_of_own (h1 := fun _ => rfl) (ok := fun _ => True) ho0 (fun _ _ => trivial); clear ho0; rw [← N5.out] at ho; have n0_ := Aside0.mk (blk_grown (g := g) (o := .cells #[.int .i64 a, .int .i64 b, .string c, .bool true, .string e] 39 (0, 0)) (by (with_reducible repeat (first | refine blk_drewN ?_ _ | refine blk_drew ?_ | refine blk_alloc ?_ _)); exact BK.out) hg (Kd.R_ne HO4.out BK.out (by decide))); have n1_ := Aside0.mk (hb); have n2_ := Aside0.mk (ho); clear BK; clear HB; clear HO4; have BK := n0_; have HB := n1_; have HO5 := n2_; clear n0_ n1_ n2_; clear ho hb hg; have hcv := own_string (P := Try.prog) Try.underlying53 Try.underlying5 Try.underlying9 (Kd.own_of_R HO5.out)))
    go_ret
    exact ⟨congrArg (fun x => Ending.returned (Value.string x)) (HR.out), (by repeat (first | (with_reducible first | exact HB.out | apply below_alloc | apply pw_below_drewN | apply below_drew1 | refine below_set ?_ GE.out) | exact HB.out))⟩
def ringworkref25_written.f (a0_0 : Int) (a0_1 : Int) (a0_2 : ByteArray) (a0_3 : Bool) (a0_4 : ByteArray) : Option ByteArray :=
  if (1 ≤ a0_0 ∧ a0_0 ≤ 7) ∧ (0 ≤ a0_1 ∧ a0_1 ≤ 1000) ∧ (a0_2.size : Int) ≤ 40 ∧ (a0_4.size : Int) ≤ 4000 then some (wrL a0_0 a0_1 a0_2 a0_3 a0_4) else none
theorem ringworkref25_written.calls (a0_0 : Int) (a0_1 : Int) (a0_2 : ByteArray) (a0_3 : Bool) (a0_4 : ByteArray) (r : ByteArray) (w : World) (h : ringworkref25_written.f a0_0 a0_1 a0_2 a0_3 a0_4 = some r) :
    Calls Try.prog 74 #[.agg #[.int .i64 a0_0, .int .i64 a0_1, .string a0_2, .bool a0_3, .string a0_4]] w fun e w' => e = .returned (.string r) ∧ Below w.heap.size w w' := by
  unfold ringworkref25_written.f at h
  split at h
  · rename_i hc
    obtain rfl := Option.some.inj h
    exact rwritten_calls a0_0 a0_1 a0_2 a0_3 a0_4 w hc.1 hc.2.1 hc.2.2.1 hc.2.2.2
  · cases h
end Go.Proofs.Yteblpjnkinghoaa.J
namespace Go.Proofs.Yteblpjnkinghoaa.J
open Go.RowKit Go.Proofs.YteblpjnkinghoaaW.PrintWords Go.Proofs.YteblpjnkinghoaaW.PrintLast Go.Proofs.YteblpjnkinghoaaW.PrintMore
attribute [local go_sem] max2_int min2_int max_two min_two max_three min_three max_four min_four   -- for this text's walks alone
set_option linter.unusedVariables false
set_option linter.unusedSimpArgs false
/-! ### ringworkref25_all: function 57 -/
def ringworkref25_all.l0 : Nat → Int → List (S39) → ByteArray → Int → Option (ByteArray)
  | 0, _, _, _, _ => none
  | k + 1, x0, x1, x5, x6 => if x6 < (x1.length : Int) then (if 0 ≤ x6 then ((ringworkref25_written.f ((rd_T39 x1 x6).f0) ((rd_T39 x1 x6).f1) ((rd_T39 x1 x6).f2) ((rd_T39 x1 x6).f3) ((rd_T39 x1 x6).f4)).bind fun t173 => ((ringworkref25_Sum.f x0 t173).bind fun t174 => (if x5.size + t173.size ≤ 9223372036854775807 then ((ringworkref25_eight.f t174).bind fun t175 => (if (x5 ++ t173).size + t175.size ≤ 9223372036854775807 then (ringworkref25_all.l0 k t174 x1 ((x5 ++ t173) ++ t175) (wrap64 (x6 + 1))) else (none))) else (none)))) else (none)) else (some x5)
def ringworkref25_all.f (k : Nat) (a0 : Int) (l1 : List (S39)) : Option (ByteArray) := ringworkref25_all.l0 k a0 l1 (⟨#[]⟩ : ByteArray) 0
set_option maxHeartbeats 8000000 in
set_option maxRecDepth 100000 in
theorem ringworkref25_all.calls (k : Nat) (a0 : Int) (A1 : Option Addr) (c1 : Nat) (l1 : List (S39)) (r : ByteArray) (w : World) (hr1 : Kd.C k39 w A1 l1.length l1) (hc1 : l1.length ≤ c1) (h : ringworkref25_all.f k a0 l1 = some r) :
    Calls Try.prog 57 #[.int .u64 a0, .slice A1 l1.length c1] w fun e w' => e = .returned (.string r) ∧ Below w.heap.size w w' := by
  have hu39 := Try.underlying39
  have HR1 := Aside0.mk hr1
  have HC1 := Aside0.mk hc1
  clear hr1 hc1
  have HB := Aside0.mk (Below.refl w.heap.size w)
  have H : (ringworkref25_all.l0 k a0 l1 (⟨#[]⟩ : ByteArray) 0) = some r := h
  clear h
  have H' := Aside0.mk H
  clear H
  go_enter Try.func57, Try.ntmps57
  go_wp2
  go_loopg [0, 5, 6] k (fun kq v0 v5 v6 w' => ∃ (x0_1 : Int) (x5_1 : ByteArray) (x6_1 : Int), v0 = .int .u64 x0_1 ∧ v5 = .string x5_1 ∧ v6 = .int .i64 x6_1 ∧ Aside0 (ringworkref25_all.l0 kq x0_1 l1 x5_1 x6_1 = some r) ∧ Aside0 (kq ≤ k) ∧ Aside0 (Below w.heap.size w w'))
  case atStart => exact ⟨(a0), ((⟨#[]⟩ : ByteArray)), (0), (by first | rfl | (simp; done) | (simp [*]; done)), (by first | rfl | (simp; done) | (simp [*]; done)), (by first | rfl | (simp; done) | (simp [*]; done)), H', ⟨Nat.le_refl _⟩, ⟨by repeat (first | (with_reducible first | exact HB.out | apply below_alloc | apply pw_below_drewN | apply below_drew1) | exact HB.out)⟩⟩
  case round =>
    clear H'
    try clear c1
    try clear p2
    obtain ⟨x0_1, x5_1, x6_1, rfl, rfl, rfl, HA, HK1, HB⟩ := hrel
    cases gk with
    | zero => exact absurd HA.out (by simp [ringworkref25_all.l0])
    | succ k1 =>
      have H := HA.out
      clear HA
      simp only [ringworkref25_all.l0] at H
      by_cases c3 : x6_1 < (l1.length : Int)
      · rw [if_pos c3] at H
        have c3b0 : decide (x6_1 < (l1.length : Int)) = true := decide_eq_true c3
        clear c3
        by_cases c4 : 0 ≤ x6_1
        · rw [if_pos c4] at H
          have c4b0 : decide (0 ≤ x6_1) = true := decide_eq_true c4
          clear c4
          replace H := Option.bind_eq_some_iff.mp H
          obtain ⟨t173, A50, H⟩ := H
          replace H : ((ringworkref25_Sum.f x0_1 t173).bind fun t174 => (if x5_1.size + t173.size ≤ 9223372036854775807 then ((ringworkref25_eight.f t174).bind fun t175 => (if (x5_1 ++ t173).size + t175.size ≤ 9223372036854775807 then (ringworkref25_all.l0 k1 t174 l1 ((x5_1 ++ t173) ++ t175) (wrap64 (x6_1 + 1))) else (none))) else (none))) = some r := H
          have A5 := Aside0.mk A50
          clear A50
          replace H := Option.bind_eq_some_iff.mp H
          obtain ⟨t174, A60, H⟩ := H
          replace H : (if x5_1.size + t173.size ≤ 9223372036854775807 then ((ringworkref25_eight.f t174).bind fun t175 => (if (x5_1 ++ t173).size + t175.size ≤ 9223372036854775807 then (ringworkref25_all.l0 k1 t174 l1 ((x5_1 ++ t173) ++ t175) (wrap64 (x6_1 + 1))) else (none))) else (none)) = some r := H
          have A6 := Aside0.mk A60
          clear A60
          by_cases c7 : x5_1.size + t173.size ≤ 9223372036854775807
          · rw [if_pos c7] at H
            have c7add : ∀ w_ : World, (Op.stringOp .add (x5_1) (t173)).run Try.prog w_ = .ok (.string ((x5_1) ++ (t173))) w_ := fun w_ => run_string_add_sum w_ _ _ c7
            have c7b0 := eq_true c7
            have c7b1 : decide (x5_1.size + t173.size ≤ 9223372036854775807) = true := decide_eq_true c7
            try have c7b2 : (9223372036854775807 < x5_1.size + t173.size) = False := eq_false (Nat.not_lt.2 c7)
            replace H := Option.bind_eq_some_iff.mp H
            obtain ⟨t175, A80, H⟩ := H
            replace H : (if (x5_1 ++ t173).size + t175.size ≤ 9223372036854775807 then (ringworkref25_all.l0 k1 t174 l1 ((x5_1 ++ t173) ++ t175) (wrap64 (x6_1 + 1))) else (none)) = some r := H
            have A8 := Aside0.mk A80
            clear A80
            by_cases c9 : (x5_1 ++ t173).size + t175.size ≤ 9223372036854775807
            · rw [if_pos c9] at H
              have c9add : ∀ w_ : World, (Op.stringOp .add ((x5_1 ++ t173)) (t175)).run Try.prog w_ = .ok (.string (((x5_1 ++ t173)) ++ (t175))) w_ := fun w_ => run_string_add_sum w_ _ _ c9
              have c9b0 := eq_true c9
              have c9b1 : decide ((x5_1 ++ t173).size + t175.size ≤ 9223372036854775807) = true := decide_eq_true c9
              try have c9b2 : (9223372036854775807 < (x5_1 ++ t173).size + t175.size) = False := eq_false (Nat.not_lt.2 c9)
              have H' := Aside0.mk H
              clear H
              have p172 : 0 ≤ (x6_1 : Int) := of_decide_eq_true (by first | (with_reducible assumption) | assumption)
              have q172 : x6_1 < (l1.length : Int) := of_decide_eq_true (by first | (with_reducible assumption) | assumption)
              obtain ⟨ad172, e172, hx172_0, hx172_1, hx172_2, hx172_3, hx172_4⟩ := at_T39 HR1.out x6_1 p172 q172
              cases e172
              replace hx172_0 := (HB.out.cell (World.block_lt_of_cell? w _ hx172_0)).trans hx172_0
              replace hx172_1 := (HB.out.cell (World.block_lt_of_cell? w _ hx172_1)).trans hx172_1
              replace hx172_2 := (HB.out.cell (World.block_lt_of_cell? w _ hx172_2)).trans hx172_2
              replace hx172_3 := (HB.out.cell (World.block_lt_of_cell? w _ hx172_3)).trans hx172_3
              replace hx172_4 := (HB.out.cell (World.block_lt_of_cell? w _ hx172_4)).trans hx172_4
              replace p172 := eq_true p172
              replace q172 := eq_true q172
              go_wp2_with (first | ((with_reducible refine gate_callee (f := 74) rfl ?_); refine goesL_ (some 18) rfl rfl Try.func74 (by kernel_rfl) rfl #[.agg #[.int .i64 ((rd_T39 l1 x6_1).f0), .int .i64 ((rd_T39 l1 x6_1).f1), .string ((rd_T39 l1 x6_1).f2), .bool ((rd_T39 l1 x6_1).f3), .string ((rd_T39 l1 x6_1).f4)]] rfl (by (try simp only [List.map_toArray, List.map_cons, List.map_nil]); first | done | rfl | (simp only [List.length_drop, List.length_take]; rfl)) ?_; (with_reducible refine (ringworkref25_written.calls ((rd_T39 l1 x6_1).f0) ((rd_T39 l1 x6_1).f1) ((rd_T39 l1 x6_1).f2) ((rd_T39 l1 x6_1).f3) ((rd_T39 l1 x6_1).f4) t173 _ A5.out).mono ?_); rintro e w10 ⟨rfl, hb⟩; refine ⟨_, rfl, ?_⟩; have n0_ := Aside0.mk (below_step (by repeat (first | (with_reducible first | exact HB.out | apply below_alloc | apply pw_below_drewN | apply below_drew1) | exact HB.out)) hb); clear HB; have HB := n0_; clear n0_; (try clear hb); (try clear hb2); (try clear hk); (try clear hi)) | ((with_reducible refine gate_callee (f := 31) rfl ?_); refine goesL_ (some 21) rfl rfl Try.func31 (by kernel_rfl) rfl #[.int .u64 x0_1, .string t173] rfl (by (try simp only [List.map_toArray, List.map_cons, List.map_nil]); first | done | rfl | (simp only [List.length_drop, List.length_take]; rfl)) ?_; (with_reducible refine (ringworkref25_Sum.calls x0_1 t173 t174 _ A6.out).mono ?_); rintro e w11 ⟨rfl, hb⟩; refine ⟨_, rfl, ?_⟩; have n0_ := Aside0.mk (below_step (by repeat (first | (with_reducible first | exact HB.out | apply below_alloc | apply pw_below_drewN | apply below_drew1) | exact HB.out)) hb); clear HB; have HB := n0_; clear n0_; (try clear hb); (try clear hb2); (try clear hk); (try clear hi)) | ((with_reducible refine gate_callee (f := 63) rfl ?_); refine goesL_ (some 26) rfl rfl Try.func63 (by kernel_rfl) rfl #[.int .u64 t174] rfl (by (try simp only [List.map_toArray, List.map_cons, List.map_nil]); first | done | rfl | (simp only [List.length_drop, List.length_take]; rfl)) ?_; (with_reducible refine (ringworkref25_eight.calls t174 t175 _ A8.out).mono ?_); rintro e w12 ⟨rfl, hb⟩; refine ⟨_, rfl, ?_⟩; have n0_ := Aside0.mk (below_step (by repeat (first | (with_reducible first | exact HB.out | apply below_alloc | apply pw_below_drewN | apply below_drew1) | exact HB.out)) hb); clear HB; have HB := n0_; clear n0_; (try clear hb); (try clear hb2); (try clear hk); (try clear hi)))
              go_roundg k1
              case measure => have := HK1.out; omega
              case rel => exact ⟨(t174), ((x5_1 ++ t173) ++ t175), (wrap64 (x6_1 + 1)), (by first | rfl | (simp; done) | (simp [*]; done)), (by first | rfl | (simp; done) | (simp [*]; done)), (by first | rfl | (simp; done) | (simp [*]; done)), H', ⟨by have := HK1.out; omega⟩, ⟨by repeat (first | (with_reducible first | exact HB.out | apply below_alloc | apply pw_below_drewN | apply below_drew1) | exact HB.out)⟩⟩
            · rw [if_neg c9] at H
              exact absurd H (by simp)
          · rw [if_neg c7] at H
            exact absurd H (by simp)
        · rw [if_neg c4] at H
          exact absurd H (by simp)
      · rw [if_neg c3] at H
        have c3b0 : decide (x6_1 < (l1.length : Int)) = false := decide_eq_false c3
        clear c3
        obtain rfl := Option.some.inj H
        go_wp2
        go_ret
        exact ⟨by first | rfl | (simp [errW_none, errW_some] <;> rfl) | (simp [*, errW_none, errW_some] <;> rfl), by repeat (first | (with_reducible first | exact HB.out | apply below_alloc | apply pw_below_drewN | apply below_drew1) | exact HB.out)⟩

end Go.Proofs.Yteblpjnkinghoaa.J
/- A note's bytes, and what a valid note is like. -/
set_option linter.unusedVariables false
set_option linter.unusedSimpArgs false
namespace Go.Proofs.Yteblpjnkinghoaa.J
open Go.RowKit Go.Proofs.YteblpjnkinghoaaW.PrintWords Go.Proofs.YteblpjnkinghoaaW.PrintLast Go.Proofs.YteblpjnkinghoaaW.PrintMore
/-- A note's bytes up to its sum. -/
def wr (n : S39) : ByteArray := wrL n.f0 n.f1 n.f2 n.f3 n.f4
theorem wr_size (n : S39) : (wr n).size = 8 + n.f2.size + n.f4.size := by
  unfold wr wrL
  rw [strOfNums_size]
  simp only [List.length_append, List.length_cons, List.length_nil, bytesOf_length]
  omega
/-- The notes' bytes behind a sum. -/
def allB : Int → List S39 → ByteArray
  | _, [] => ⟨#[]⟩
  | last, n :: l => (wr n ++ eightS (sumF last (wr n))) ++ allB (sumF last (wr n)) l
theorem plain_facts {f0 f1 : Int} {f2 : ByteArray} {f3 : Bool} {f4 : ByteArray} (h : (journal_plain.f f0 f1 f2 f3 f4).getD false = true) : 1 ≤ f1 ∧ f1 ≤ 1000 ∧ f2.size = 0 ∧ f3 = false ∧ f4.size = 0 := by
  unfold journal_plain.f journal_unit.f at h
  by_cases a1 : 1 ≤ f1
  · by_cases a2 : f1 ≤ 1000
    · by_cases a3 : f2.toList = []
      · cases f3
        · simp [a1, a2, a3] at h
          exact ⟨a1, a2, (toList_nil_iff f2).1 a3, rfl, (toList_nil_iff f4).1 h⟩
        · simp [a1, a2, a3] at h
      · simp [a1, a2, a3] at h
    · simp [a1, a2] at h
  · simp [a1] at h
theorem imaged_facts {f0 f1 : Int} {f2 : ByteArray} {f3 : Bool} {f4 : ByteArray} (h : (journal_imaged.f f0 f1 f2 f3 f4).getD false = true) : 1 ≤ f1 ∧ f1 ≤ 1000 ∧ 1 ≤ f2.size ∧ f2.size ≤ 40 ∧ f4.size ≤ 4000 ∧ (f3 = false → f4.size = 0) := by
  unfold journal_imaged.f journal_unit.f at h
  by_cases a1 : 1 ≤ f1
  · by_cases a2 : f1 ≤ 1000
    · by_cases a3 : f2.toList = []
      · simp [a1, a2, a3] at h
      · have a3' : f2.size ≠ 0 := fun e => a3 ((toList_nil_iff f2).2 e)
        by_cases a4 : (f2.size : Int) ≤ 40
        · by_cases a5 : (f4.size : Int) ≤ 4000
          · cases f3
            · simp [a1, a2, a3, a4, a5] at h
              exact ⟨a1, a2, by omega, by omega, by omega, fun _ => (toList_nil_iff f4).1 h⟩
            · exact ⟨a1, a2, by omega, by omega, by omega, fun h => by cases h⟩
          · simp [a1, a2, a3, a4, a5] at h
        · simp [a1, a2, a3, a4] at h
    · simp [a1, a2] at h
  · simp [a1] at h
theorem named_facts {f0 f1 : Int} {f2 : ByteArray} {f3 : Bool} {f4 : ByteArray} (h : (journal_named.f f0 f1 f2 f3 f4).getD false = true) : f1 = 0 ∧ f2.size = 0 ∧ f3 = false ∧ 1 ≤ f4.size ∧ f4.size ≤ 40 := by
  unfold journal_named.f at h
  by_cases a1 : f1 = 0
  · by_cases a2 : f2.toList = []
    · cases f3
      · by_cases a3 : f4.toList = []
        · simp [a1, a2, a3] at h
        · have a3' : f4.size ≠ 0 := fun e => a3 ((toList_nil_iff f4).2 e)
          simp [a1, a2, a3] at h
          exact ⟨a1, (toList_nil_iff f2).1 a2, rfl, by omega, by omega⟩
      · simp [a1, a2] at h
    · simp [a1, a2] at h
  · simp [a1] at h
/-- What a valid note is like. -/
structure VNote (n : S39) : Prop where
  k1 : 1 ≤ n.f0
  k7 : n.f0 ≤ 7
  named : n.f0 = 6 → n.f1 = 0 ∧ n.f2.size = 0 ∧ n.f3 = false ∧ 1 ≤ n.f4.size ∧ n.f4.size ≤ 40
  imaged : n.f0 = 2 ∨ n.f0 = 3 → 1 ≤ n.f1 ∧ n.f1 ≤ 1000 ∧ 1 ≤ n.f2.size ∧ n.f2.size ≤ 40 ∧ n.f4.size ≤ 4000 ∧ (n.f3 = false → n.f4.size = 0)
  plain : n.f0 ≠ 6 → ¬ (n.f0 = 2 ∨ n.f0 = 3) → 1 ≤ n.f1 ∧ n.f1 ≤ 1000 ∧ n.f2.size = 0 ∧ n.f3 = false ∧ n.f4.size = 0
theorem vld_note {n : S39} (h : vld n = true) : VNote n := by
  unfold vld journal_Valid.f at h
  by_cases h1 : n.f0 < 1
  · rw [if_pos h1] at h; cases h
  rw [if_neg h1] at h
  by_cases h7 : 7 < n.f0
  · rw [if_pos h7] at h; cases h
  rw [if_neg h7] at h
  by_cases h23 : n.f0 = 2 ∨ n.f0 = 3
  · rw [if_pos h23] at h
    exact ⟨by omega, by omega, fun _ => by omega, fun _ => imaged_facts h, fun _ hn => absurd h23 hn⟩
  · rw [if_neg h23] at h
    by_cases h6 : n.f0 = 6
    · rw [if_pos h6] at h
      exact ⟨by omega, by omega, fun _ => named_facts h, fun h => absurd h h23, fun hn => absurd h6 hn⟩
    · rw [if_neg h6] at h
      exact ⟨by omega, by omega, fun h => absurd h h6, fun h => absurd h h23, fun _ _ => plain_facts h⟩
theorem vld_sizes {n : S39} (h : vld n = true) : n.f2.size ≤ 40 ∧ n.f4.size ≤ 4000 := by
  have hn := vld_note h
  by_cases h6 : n.f0 = 6
  · have := hn.named h6; omega
  · by_cases h23 : n.f0 = 2 ∨ n.f0 = 3
    · have := hn.imaged h23; omega
    · have := hn.plain h6 h23; omega
theorem ref_written (n : S39) (h : vld n = true) : ringworkref25_written.f n.f0 n.f1 n.f2 n.f3 n.f4 = some (wr n) := by
  have hn := vld_note h
  have hs := vld_sizes h
  have h1 := hn.k1
  have h7 := hn.k7
  have hu : 0 ≤ n.f1 ∧ n.f1 ≤ 1000 := by
    by_cases h6 : n.f0 = 6
    · have := hn.named h6; omega
    · by_cases h23 : n.f0 = 2 ∨ n.f0 = 3
      · have := hn.imaged h23; omega
      · have := hn.plain h6 h23; omega
  unfold ringworkref25_written.f
  rw [if_pos ⟨⟨h1, h7⟩, hu, by omega, by omega⟩]
  rfl
theorem empty_append (a : ByteArray) : (⟨#[]⟩ : ByteArray) ++ a = a := by
  apply ByteArray.ext; simp
theorem append_empty (a : ByteArray) : a ++ (⟨#[]⟩ : ByteArray) = a := by
  apply ByteArray.ext; simp
theorem vld_unit {n : S39} (h : vld n = true) : 0 ≤ n.f1 ∧ n.f1 ≤ 1000 := by
  have hn := vld_note h
  by_cases h6 : n.f0 = 6
  · have := hn.named h6; omega
  · by_cases h23 : n.f0 = 2 ∨ n.f0 = 3
    · have := hn.imaged h23; omega
    · have := hn.plain h6 h23; omega
theorem body_note (n : S39) (h : vld n = true) (w : World) : Calls Try.prog 80 #[.agg #[.int .i64 n.f0, .int .i64 n.f1, .string n.f2, .bool n.f3, .string n.f4]] w fun e w' => e = .returned (.string (wr n)) ∧ Below w.heap.size w w' := by
  have hn := vld_note h
  have hs := vld_sizes h
  exact body_calls n.f0 n.f1 n.f2 n.f3 n.f4 w ⟨hn.k1, hn.k7⟩ (vld_unit h) (by omega) (by omega)
end Go.Proofs.Yteblpjnkinghoaa.J
/- What Encode answers: the notes' bytes. The reference's written, all and Encode. -/
set_option linter.unusedVariables false
set_option linter.unusedSimpArgs false
namespace Go.Proofs.Yteblpjnkinghoaa.J
open Go.RowKit Go.Proofs.YteblpjnkinghoaaW.PrintWords Go.Proofs.YteblpjnkinghoaaW.PrintLast Go.Proofs.YteblpjnkinghoaaW.PrintMore
/-- The guard on notes. -/
theorem notes_guard_from (l : List S39) (hl : l.length ≤ 9223372036854775807) : ∀ (d i : Nat), d = 60 - i → i ≤ 60 → ∀ s : Int, ∃ b, Ev (fun k => ringworklaw25_Notes.l0 k l s (i : Int)) b ∧ (b = true → l.length ≤ 60) := by
  intro d
  induction d with
  | zero =>
    intro i hd hi s
    have : i = 60 := by omega
    subst this
    by_cases hn : (l.length : Int) ≤ 60
    · exact ⟨_, Ev.step (fun k => by rw [ringworklaw25_Notes.l0, if_neg (by omega), if_pos hn]) (Ev.val (decide (s ≤ 6000))), fun _ => by omega⟩
    · exact ⟨false, Ev.step (fun k => by rw [ringworklaw25_Notes.l0, if_pos (by omega), if_neg (by decide), if_neg hn]) (Ev.val false), fun h => by cases h⟩
  | succ d ih =>
    intro i hd hi s
    by_cases hlt : i < l.length
    · obtain ⟨b, hb, hbb⟩ := ih (i + 1) (by omega) (by omega) (wrap64 ((wrap64 (s + (((rd_T39 l (i : Int)).f2).size : Int))) + (((rd_T39 l (i : Int)).f4).size : Int)))
      refine ⟨b, Ev.step (fun k => by rw [ringworklaw25_Notes.l0, if_pos (by omega), if_pos (by omega), if_pos (by omega), wrap_nx hlt hl]) hb, hbb⟩
    · exact ⟨_, Ev.step (fun k => by rw [ringworklaw25_Notes.l0, if_neg (by omega), if_pos (by omega)]) (Ev.val (decide (s ≤ 6000))), fun _ => by omega⟩
theorem notes_guard (l : List S39) (hl : l.length ≤ 9223372036854775807) : ∃ b, Ev (fun k => ringworklaw25_Notes.f k l) b ∧ (b = true → l.length ≤ 60) := notes_guard_from l hl 60 0 rfl (by omega) 0
theorem ref_all_from (l : List S39) (hv : ∀ n ∈ l, vld n = true) (hl : l.length ≤ 1000) : ∀ (d i : Nat), d = l.length - i → i ≤ l.length → ∀ (last : Int) (out : ByteArray), out.size ≤ 10000 * i →
    Ev (fun k => ringworkref25_all.l0 k last l out (i : Int)) (out ++ allB last (l.drop i))
  | 0, i, hd, hi, last, out, ho => by
    have : i = l.length := by omega
    subst this
    rw [List.drop_length, allB, append_empty]
    exact Ev.step (fun k => by rw [ringworkref25_all.l0, if_neg (by omega)]) (Ev.val _)
  | d + 1, i, hd, hi, last, out, ho => by
    have hlt : i < l.length := by omega
    have hm : rd_T39 l (i : Int) ∈ l := by
      unfold rd_T39
      rw [Int.toNat_natCast, List.getD_eq_getElem?_getD, List.getElem?_eq_getElem hlt]
      exact List.getElem_mem hlt
    have hs := vld_sizes (hv _ hm)
    have hw := wr_size (rd_T39 l (i : Int))
    rw [drop_rd hlt, allB]
    have hsum : ringworkref25_Sum.f last (wr (rd_T39 l (i : Int))) = some (sumF last (wr (rd_T39 l (i : Int)))) := by
      unfold ringworkref25_Sum.f; rw [if_pos (by omega)]
    have h8 := eightS_size (sumF last (wr (rd_T39 l (i : Int))))
    refine Ev.step (fun k => by rw [ringworkref25_all.l0, if_pos (by omega), if_pos (by omega), ref_written _ (hv _ hm), Option.bind_some, hsum, Option.bind_some, if_pos (by omega), ringworkref25_eight.f, Option.bind_some, if_pos (by rw [ByteArray.size_append, h8]; omega), wrap_nx hlt (by omega)]) ?_
    have := ref_all_from l hv hl d (i + 1) (by omega) (by omega) (sumF last (wr (rd_T39 l (i : Int)))) ((out ++ wr (rd_T39 l (i : Int))) ++ eightS (sumF last (wr (rd_T39 l (i : Int))))) (by rw [ByteArray.size_append, ByteArray.size_append, h8]; omega)
    rw [ByteArray.append_assoc, ByteArray.append_assoc] at this
    rw [ByteArray.append_assoc]
    exact this
theorem ref_all (last : Int) (l : List S39) (hv : ∀ n ∈ l, vld n = true) (hl : l.length ≤ 1000) : Ev (fun k => ringworkref25_all.f k last l) (allB last l) := by
  have := ref_all_from l hv hl l.length 0 (by omega) (by omega) last ⟨#[]⟩ (Nat.le_of_eq rfl)
  rw [empty_append, List.drop_zero] at this
  exact this
/-- What Encode answers. -/
def encV (l : List S39) : ByteArray × Int := if (decide (l.length ≤ 1000) && l.all vld) = true then (if ((allB 0 l).size : Int) > 65536 then (⟨#[]⟩, 3) else (allB 0 l, 0)) else (⟨#[]⟩, 1)
theorem encV_size (l : List S39) (h : (encV l).2 = 0) : (encV l).1.size ≤ 65536 := by
  unfold encV at h ⊢
  split
  · rename_i hc
    rw [if_pos hc] at h
    split
    · rename_i hs; rw [if_pos hs] at h; exact absurd h (by decide)
    · rename_i hs; simp only; omega
  · exact Nat.zero_le _
end Go.Proofs.Yteblpjnkinghoaa.J
/- The reference's Decode is the program's; SameNotes of a list and itself; the sanity check. -/
set_option linter.unusedVariables false
set_option linter.unusedSimpArgs false
namespace Go.Proofs.Yteblpjnkinghoaa.J
open Go.RowKit Go.Proofs.YteblpjnkinghoaaW.PrintWords Go.Proofs.YteblpjnkinghoaaW.PrintLast Go.Proofs.YteblpjnkinghoaaW.PrintMore
theorem awake_true : ringworklaw25_awake.f = some true := by kernel_rfl
theorem rest_extract (s : ByteArray) (i : Int) (h0 : 0 ≤ i) (h1 : i ≤ (s.size : Int)) : Rest s (s.extract i.toNat s.size) i where
  i0 := h0
  sz := by rw [ByteArray.size_extract]; omega
  bt_ := by
    intro j j0 j1
    rw [ByteArray.size_extract] at j1
    have := bt_extract s i.toNat s.size j.toNat (by omega) (Nat.le_refl _)
    rw [show ((j.toNat : Nat) : Int) = j by omega, show ((i.toNat + j.toNat : Nat) : Int) = i + j by omega] at this
    exact this
  ex := by
    intro a b a0 ab hb
    rw [ByteArray.size_extract] at hb
    rw [ByteArray.extract_extract, show i.toNat + a.toNat = (i + a).toNat by omega, show min (i.toNat + b.toNat) s.size = (i + b).toNat by omega]
theorem ref_decode (s : ByteArray) (hs : s.size ≤ 65536) : ∀ (m : Nat) (i sum : Int) (pre : List S39), 0 ≤ i → i ≤ (s.size : Int) → (s.size : Int) - i < m → (pre.length : Int) ≤ i →
    Ev (fun k => ringworkref25_Decode.l0 k s pre i sum) (pre ++ (decGo s m i sum).1, (decGo s m i sum).2.1, (decGo s m i sum).2.2.2.1, (decGo s m i sum).2.2.1, (decGo s m i sum).2.2.2.2) := by
  intro m
  induction m with
  | zero => intro i sum pre h0 h1 h2; omega
  | succ m ih =>
    intro i sum pre h0 h1 h2 hp
    by_cases hlt : i < (s.size : Int)
    · have hsame := look_peek (rest_extract s i h0 h1) sum
      have hsz : (s.extract i.toNat s.size).size ≤ 1000000 := by rw [ByteArray.size_extract]; omega
      have hlk : ringworkref25_look.f (s.extract i.toNat s.size) sum = some ((lookF (s.extract i.toNat s.size) sum).1.f0, (lookF (s.extract i.toNat s.size) sum).1.f1, (lookF (s.extract i.toNat s.size) sum).1.f2, (lookF (s.extract i.toNat s.size) sum).1.f3, (lookF (s.extract i.toNat s.size) sum).1.f4, (lookF (s.extract i.toNat s.size) sum).2.1, (lookF (s.extract i.toNat s.size) sum).2.2.1, (lookF (s.extract i.toNat s.size) sum).2.2.2) := by
        unfold ringworkref25_look.f; rw [if_pos hsz]
      refine Ev.step (fun k => by rw [ringworkref25_Decode.l0, if_pos hlt, if_pos h0, if_pos h1, hlk, Option.bind_some]) ?_
      rw [decGo, if_pos hlt]
      cases hpk : peek s i sum with
      | torn =>
        rw [hpk] at hsame
        obtain ⟨n, hn⟩ := hsame
        simp only [hn, if_true, List.append_nil]
        exact Ev.val _
      | wrong =>
        rw [hpk] at hsame
        obtain ⟨n, hn⟩ := hsame
        simp only [hn, if_true, List.append_nil, Bool.false_eq_true, if_false]
        exact Ev.val _
      | ok n sm fin =>
        rw [hpk] at hsame
        have hn : lookF (s.extract i.toNat s.size) sum = (n, fin - i, sm, false) := hsame
        have hf := peek_fin h0 hpk
        simp only [hn, Bool.false_eq_true, if_false]
        simp only [if_neg (show ¬ fin - i = 0 by omega), if_pos (show pre.length < 2513169434916 by omega), show wrap64 (i + (fin - i)) = fin by unfold wrap64; omega]
        have := ih fin sm (pre ++ [n]) (by omega) hf.2 (by omega) (by rw [List.length_append]; simp; omega)
        rw [List.append_assoc, List.singleton_append] at this
        exact this
    · refine Ev.step (fun k => by rw [ringworkref25_Decode.l0, if_neg hlt]) ?_
      rw [decGo, if_neg hlt]
      simp only [List.append_nil]
      exact Ev.val _
theorem dec_ref (s : ByteArray) (hs : s.size ≤ 65536) : Ev (fun k => ringworkref25_Decode.f k s) ((decGo s (s.size + 1) 0 0).1, (decGo s (s.size + 1) 0 0).2.1, (decGo s (s.size + 1) 0 0).2.2.2.1, (decGo s (s.size + 1) 0 0).2.2.1, (decGo s (s.size + 1) 0 0).2.2.2.2) := by
  unfold ringworkref25_Decode.f
  simp only [if_neg (show ¬ (s.size : Int) > 65536 by omega)]
  exact ref_decode s hs (s.size + 1) 0 0 [] (by omega) (by omega) (by omega) (by simp)
end Go.Proofs.Yteblpjnkinghoaa.J

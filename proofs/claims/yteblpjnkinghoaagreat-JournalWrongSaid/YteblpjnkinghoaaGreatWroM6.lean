/- The law JournalWrong holds of every input: it returns true, and its arguments read behind the call as they read before. Conditions: none. -/
import Derived.Sort.OwnSortedInts
import Derived.Deep.RegionHeld3
import Derived.Deep.SlicePairs
import Derived.Test.YteblpjnkinghoaaGreatRows
import Derived.WalkKit
import Derived.ProofKit
import Derived.OpenShut
import Derived.ShutString
import Derived.ChangeOld
import Derived.Below
import Derived.SizedLaws
import Derived.Test.YteblpjnkinghoaaGreatWroM5
import Derived.Test.YteblpjnkinghoaaGreatWroM1
import Derived.Test.YteblpjnkinghoaaGreatWroM3
import Derived.Test.YteblpjnkinghoaaGreatWroM2
import Derived.Test.YteblpjnkinghoaaGreatWroM4
set_option linter.unusedVariables false
set_option linter.unusedSimpArgs false
/- slices.Sort of a slice of the call's own, of whole numbers and of strings: what it leaves. -/
namespace Go.Proofs.YteblpjnkinghoaaGreat.J
open Go.RowKit Go.Sort Go.Proofs.YteblpjnkinghoaaGreatW.PrintWords
def sortI (l : List Int) : List Int := l.mergeSort fun x y => decide (x ≤ y)
theorem sortI_length (l : List Int) : (sortI l).length = l.length := List.length_mergeSort l
theorem max_small {n : Nat} (h : n ≤ 1000000) : n < 4611686018427387904 := by omega
theorem sort_ints_calls (w : World) (base : Nat) (ok : Nat → Prop) (v : Value) (xs : List Int) (h : Kd.R (Kd.int .i64) 3 w base ok v xs) (hl : xs.length ≤ 1000000) :
    Calls Tryz.prog 47 #[v] w fun e w' => e = .returned (.tuple #[]) ∧ Kd.R (Kd.int .i64) 3 w' base ok v (sortI xs) ∧ Below base w w' := by
  have ho := Kd.own_of_R h
  rcases ho.2 with ⟨rfl, h0⟩ | ⟨g, cap, cur, rfl, hbase, hb, h1, h2, h3, h4⟩
  · have hx : xs = [] := List.eq_nil_of_length_eq_zero h0
    subst hx
    have e0 : sortI [] = [] := by simp [sortI]
    rw [e0]
    refine (Tryz.slices_Sort_int_none none 0 w).mono ?_
    rintro e w' ⟨he, rfl⟩
    exact ⟨he, h, Below.refl _ _⟩
  · rw [Nat.mul_one] at h4
    refine (Tryz.slices_Sort_int g 0 cap xs w (holds_of_blockI hb (by rw [h4]; rfl)) (Array.getElem?_eq_some_iff.1 hb).1 (max_small hl)).mono ?_
    rintro e w' ⟨he, n, os, rfl⟩
    have hs := ownsRow_sortedI (ss := xs) (ts := sortI xs) (n := n) (os := os) (sortI_length xs) hbase hb h1 h2 h3
    refine ⟨he, Kd.R_of_own (by rw [sortI_length]; exact hs) h.1, ?_⟩
    exact (Below.refl base w).grown (grownBy_sortedI (w := w) (g := g) (n := n) (os := os) (sortI xs).toArray) (by have := (Array.getElem?_eq_some_iff.1 hb).1; omega) (fun k e => by cases e; exact hbase)
def toL (b : ByteArray) : List UInt8 := b.data.toList
def ofL (l : List UInt8) : ByteArray := ⟨l.toArray⟩
theorem of_toL (b : ByteArray) : ofL (toL b) = b := by unfold ofL toL; rfl
theorem to_ofL (l : List UInt8) : toL (ofL l) = l := rfl
def sortS (l : List ByteArray) : List ByteArray := ((l.map toL).mergeSort fun x y => decide (x ≤ y)).map ofL
theorem sortS_length (l : List ByteArray) : (sortS l).length = l.length := by unfold sortS; rw [List.length_map, List.length_mergeSort, List.length_map]
theorem encs_str (l : List (List UInt8)) : encs Value.string (l.map ofL) = l.map encStr := by unfold encs; rw [List.map_map]; rfl
theorem encs_str' (l : List ByteArray) : encs Value.string l = (l.map toL).map encStr := by unfold encs; rw [List.map_map]; rfl
theorem sort_strings_calls (w : World) (base : Nat) (ok : Nat → Prop) (v : Value) (xs : List ByteArray) (h : Kd.R Kd.string 9 w base ok v xs) (hl : xs.length ≤ 1000000) :
    Calls Tryz.prog 38 #[v] w fun e w' => e = .returned (.tuple #[]) ∧ Kd.R Kd.string 9 w' base ok v (sortS xs) ∧ Below base w w' := by
  have ho := Kd.own_of_R h
  rcases ho.2 with ⟨rfl, h0⟩ | ⟨g, cap, cur, rfl, hbase, hb, h1, h2, h3, h4⟩
  · have hx : xs = [] := List.eq_nil_of_length_eq_zero h0
    subst hx
    have e0 : sortS [] = [] := by simp [sortS]
    rw [e0]
    refine (Tryz.slices_Sort_string_none none 0 w).mono ?_
    rintro e w' ⟨he, rfl⟩
    exact ⟨he, h, Below.refl _ _⟩
  · rw [Nat.mul_one] at h4
    have hlen : (xs.map toL).length = xs.length := List.length_map _
    have hc := Tryz.slices_Sort_string g 0 cap (xs.map toL) w (holds_of_block hb (by rw [hlen, h4]; exact encs_str' xs)) (Array.getElem?_eq_some_iff.1 hb).1 (by rw [hlen]; exact max_small hl)
    rw [hlen] at hc
    refine hc.mono ?_
    rintro e w' ⟨he, n, os, rfl⟩
    have hs := ownsRow_sorted (ss := xs.map toL) (ts := (xs.map toL).mergeSort fun x y => decide (x ≤ y)) (n := n) (os := os) (List.length_mergeSort _) hbase hb (by rw [hlen]; exact h1) h2 h3
    rw [hlen] at hs
    refine ⟨he, Kd.R_of_own ?_ h.1, ?_⟩
    · rw [sortS_length, show encs Value.string (sortS xs) = ((xs.map toL).mergeSort fun x y => decide (x ≤ y)).map encStr from encs_str _]
      exact hs
    · exact (Below.refl base w).grown (grownBy_sorted (w := w) (g := g) (n := n) (os := os) _) (by have := (Array.getElem?_eq_some_iff.1 hb).1; omega) (fun k e => by cases e; exact hbase)
/-- Sorted whole numbers, none twice, are told by what they hold. -/
theorem sortI_mem (l : List Int) (x : Int) : x ∈ sortI l ↔ x ∈ l := (List.mergeSort_perm l _).mem_iff
theorem sortI_le (l : List Int) : (sortI l).Pairwise (· ≤ ·) := by
  have := List.pairwise_mergeSort (le := fun x y : Int => decide (x ≤ y)) (fun a b c h1 h2 => by simp only [decide_eq_true_eq] at *; omega) (fun a b => by simp only [Bool.or_eq_true, decide_eq_true_eq]; omega) l
  exact this.imp (fun h => by simpa using h)
theorem sortI_lt {l : List Int} (h : l.Nodup) : (sortI l).Pairwise (· < ·) := by
  have h2 : (sortI l).Nodup := (List.mergeSort_perm l _).nodup_iff.2 h
  exact (List.pairwise_and_iff.2 ⟨sortI_le l, h2⟩).imp (fun ⟨h1, h3⟩ => by omega)
theorem lt_ext : ∀ {a b : List Int}, a.Pairwise (· < ·) → b.Pairwise (· < ·) → (∀ x, x ∈ a ↔ x ∈ b) → a = b
  | [], [], _, _, _ => rfl
  | [], y :: b, _, _, h => by have := (h y).2 List.mem_cons_self; cases this
  | x :: a, [], _, _, h => by have := (h x).1 List.mem_cons_self; cases this
  | x :: a, y :: b, ha, hb, h => by
    have ha' := List.pairwise_cons.1 ha
    have hb' := List.pairwise_cons.1 hb
    have e : x = y := by
      rcases List.mem_cons.1 ((h x).1 List.mem_cons_self) with h1 | h1
      · exact h1
      · rcases List.mem_cons.1 ((h y).2 List.mem_cons_self) with h2 | h2
        · exact h2.symm
        · have := hb'.1 x h1; have := ha'.1 y h2; omega
    subst e
    rw [lt_ext ha'.2 hb'.2 (fun z => ?_)]
    have hz := h z
    rw [List.mem_cons, List.mem_cons] at hz
    constructor
    · intro hm
      rcases hz.1 (.inr hm) with rfl | h2
      · have := ha'.1 z hm; omega
      · exact h2
    · intro hm
      rcases hz.2 (.inr hm) with rfl | h2
      · have := hb'.1 z hm; omega
      · exact h2
end Go.Proofs.YteblpjnkinghoaaGreat.J
/- The contract of journal.Keys, for every slice of notes and every unit. -/
namespace Go.Proofs.YteblpjnkinghoaaGreat.J
open Go.BigFrame Go.RowKit Go.Proofs.YteblpjnkinghoaaGreatW.PrintWords Go.Proofs.YteblpjnkinghoaaGreatW.PrintLast Go.Proofs.YteblpjnkinghoaaGreatW.PrintMore
/-- What Keys answers. -/
def journal_Keys.f (l0 : List (S43)) (a1 : Int) : Option (List ByteArray × Int) :=
  (journal_Undo.f l0 a1).bind fun r => if r.1.length ≤ 100000 then some (sortS (r.1.map (·.f0)), r.2) else none
set_option maxHeartbeats 4000000 in
set_option maxRecDepth 100000 in
theorem keys_walk (A0 : Option Addr) (c0 : Nat) (l0 : List (S43)) (a1 : Int) (x1 : List S48) (r2 : Int) (w : World) (hr0 : Kd.C k43 w A0 l0.length l0) (hc0 : l0.length ≤ c0) (h : journal_Undo.f l0 a1 = some (x1, r2)) (hl : x1.length ≤ 100000) :
    Calls Tryz.prog 15 #[.slice A0 l0.length c0, .int .i64 a1] w fun e w' => ∃ v0_ : Value, e = .returned (.tuple #[v0_, .int .i64 r2]) ∧ Kd.R Kd.string 9 w' w.heap.size (fun _ => True) v0_ (sortS (x1.map (·.f0))) ∧ Below w.heap.size w w' := by
  have HR0 := Aside0.mk hr0
  have HC0 := Aside0.mk hc0
  have HU := Aside0.mk h
  clear hr0 hc0 h
  go_enter Tryz.func15, Tryz.ntmps15
  go_wp2_with (go_at_call 37; refine (journal_Undo.calls _ _ _ _ _ _ _ HR0.out HC0.out HU.out).mono ?_; rintro r w1 ⟨v1, rfl, ho1, hb1⟩; obtain ⟨A1, c1, rfl, hlc1, hC1⟩ := Kd.R_reads ho1)
  have HC1 := Aside0.mk hC1
  have HB1 := Aside0.mk hb1
  clear ho1 hb1 hC1 HU
  go_loopg [8, 19] (x1.length + 1) (fun kq v8 v19 w' => ∃ (i : Nat), v19 = .int .i64 i ∧ i ≤ x1.length ∧ Aside0 (kq + i = x1.length + 1) ∧ Aside0 (Kd.R Kd.string 9 w' w1.heap.size (fun _ => True) v8 ((x1.take i).map (·.f0))) ∧ Aside0 (Below w1.heap.size w1 w'))
  case atStart => exact ⟨0, rfl, by omega, ⟨by omega⟩, ⟨Kd.R_nil _ _ _ _ _⟩, ⟨Below.refl _ _⟩⟩
  case round =>
    obtain ⟨i, rfl, hi, HQ, HO, HB2⟩ := hrel
    by_cases hlt : i < x1.length
    · obtain ⟨ad, rfl, h0, h1, h2⟩ := at_T48 (Kd.C_below HC1.out HB2.out) (i : Int) (by omega) (by omega)
      rw [Int.toNat_natCast] at h0 h1 h2
      have HT := Aside0.mk (show (x1.take (i + 1)).map (·.f0) = (x1.take i).map (·.f0) ++ [(rd_T48 x1 (i : Int)).f0] by
        rw [List.take_succ_eq_append_getElem hlt, List.map_append]
        have : rd_T48 x1 (i : Int) = x1[i] := by unfold rd_T48; rw [Int.toNat_natCast, List.getD_eq_getElem?_getD, List.getElem?_eq_getElem hlt]; rfl
        rw [this]; rfl)
      have HLN := Aside0.mk (show ((x1.take i).map (·.f0)).length ≤ 100000 by rw [List.length_map, List.length_take]; omega)
      generalize rd_T48 x1 (i : Int) = x at h0 h1 h2 HT
      have hk := heap_alloc_new wr (.cells #[.string x.f0, .bool x.f1, .string x.f2] 48)
      have hq0 := (blk_cell hk 0).trans (show _ = some (Value.string x.f0) from rfl)
      have HO5 := Aside0.mk (Kd.R_alloc HO.out (.cells #[.string x.f0, .bool x.f1, .string x.f2] 48))
      have HB25 := Aside0.mk (HB2.out.alloc (below_size HB2.out) (.cells #[.string x.f0, .bool x.f1, .string x.f2] 48))
      clear hk
      generalize hys : (x1.take i).map (·.f0) = ys at HO5 HT HLN
      clear hys HO HB2
      go_upto_region 6 with (fail)
      generalize wr.alloc (.cells #[.string x.f0, .bool x.f1, .string x.f2] 48) = w5 at hq0 HO5 HB25 ⊢
      go_wp2_with (at_builtin; refine Kd.R_append Kd.string (w0 := w1) w1.heap.size rfl (.tmp 23) (.tmp 26) 33 9 (.string ⟨#[]⟩) 16 rfl Tryz.underlying33 info9 rfl (by decide) (by decide) u8 ys x.f0 [.string x.f0] (fun _ => True) (fun _ => False) rfl rfl ?aP (fun _ hk => hk.elim) ?aF ?aO ?aB ?aS ?aL ?_; (case aP => exact rfl); (case aF => exact (fun _ _ => trivial)); (case aO => exact HO5.out); (case aB => exact HB25.out); (case aS => exact below_size HB25.out); (case aL => have := HLN.out; omega); intro v2 w3 ho hb3 hg3 _; have HO3 := Aside0.mk ho; have HB3 := Aside0.mk hb3; clear ho hb3 hg3)
      go_roundg (gk - 1)
      case measure => have := HQ.out; omega
      case rel => exact ⟨i + 1, rfl, by omega, ⟨by have := HQ.out; omega⟩, ⟨by rw [HT.out]; exact HO3.out⟩, HB3⟩
    · have hke : i = x1.length := by omega
      subst hke
      have HO' := Aside0.mk (show Kd.R Kd.string 9 wr w1.heap.size (fun _ => True) u8 (x1.map (·.f0)) by have := HO.out; rw [List.take_length] at this; exact this)
      clear HO HQ
      go_wp2_with (go_at_call 38; refine (sort_strings_calls _ _ _ _ _ HO'.out (by rw [List.length_map]; omega)).mono ?_; rintro e w9 ⟨rfl, ho9, hb9⟩)
      go_ret2
      exact ⟨_, rfl, Kd.R_lower ho9 (below_size HB1.out), below_step HB1.out (HB2.out.trans hb9)⟩
theorem journal_Keys.calls (A0 : Option Addr) (c0 : Nat) (l0 : List (S43)) (a1 : Int) (r1 : List ByteArray) (r2 : Int) (w : World) (hr0 : Kd.C k43 w A0 l0.length l0) (hc0 : l0.length ≤ c0) (h : journal_Keys.f l0 a1 = some (r1, r2)) :
    Calls Tryz.prog 15 #[.slice A0 l0.length c0, .int .i64 a1] w fun e w' => ∃ v0_ : Value, e = .returned (.tuple #[v0_, .int .i64 r2]) ∧ Kd.R Kd.string 9 w' w.heap.size (fun _ => True) v0_ r1 ∧ Below w.heap.size w w' := by
  unfold journal_Keys.f at h
  obtain ⟨⟨x1, x2⟩, hu, h⟩ := Option.bind_eq_some_iff.1 h
  by_cases hl : x1.length ≤ 100000
  · simp only [if_pos hl] at h
    obtain ⟨rfl, rfl⟩ := Prod.mk.inj (Option.some.inj h)
    exact keys_walk A0 c0 l0 a1 x1 x2 w hr0 hc0 hu hl
  · simp only [if_neg hl] at h
    cases h
end Go.Proofs.YteblpjnkinghoaaGreat.J
/- The contract of the reference's Keys, for every slice of notes and every unit. -/
namespace Go.Proofs.YteblpjnkinghoaaGreat.J
open Go.BigFrame Go.RowKit Go.Proofs.YteblpjnkinghoaaGreatW.PrintWords Go.Proofs.YteblpjnkinghoaaGreatW.PrintLast Go.Proofs.YteblpjnkinghoaaGreatW.PrintMore
/-- A key among keys in order, if it is not there. -/
def insK (out : List ByteArray) (key : ByteArray) : List ByteArray :=
  if (out.dropWhile fun y => kless y key).head? = some key then out else out.takeWhile (fun y => kless y key) ++ key :: out.dropWhile fun y => kless y key
def keyStep (u : Int) (out : List ByteArray) (n : S43) : List ByteArray := if n.f1 = u ∧ n.f2.toList ≠ [] then insK out n.f2 else out
theorem insK_len (out : List ByteArray) (key : ByteArray) : (insK out key).length ≤ out.length + 1 := by
  have h := congrArg List.length (List.takeWhile_append_dropWhile (p := fun y => kless y key) (l := out))
  rw [List.length_append] at h
  unfold insK
  split
  · omega
  · rw [List.length_append, List.length_cons]; omega
theorem tws_take (p : ByteArray → Bool) : ∀ l : List ByteArray, l.take (l.takeWhile p).length = l.takeWhile p
  | [] => rfl
  | x :: l => by
    rw [List.takeWhile_cons]
    split
    · rw [List.length_cons, List.take_succ_cons, tws_take p l]
    · rfl
theorem tws_drop (p : ByteArray → Bool) : ∀ l : List ByteArray, l.drop (l.takeWhile p).length = l.dropWhile p
  | [] => rfl
  | x :: l => by
    rw [List.takeWhile_cons, List.dropWhile_cons]
    split
    · rw [List.length_cons, List.drop_succ_cons, tws_drop p l]
    · rfl
theorem tws_all (p : ByteArray → Bool) : ∀ (l : List ByteArray) (a : ByteArray), a ∈ l.takeWhile p → p a = true
  | x :: l, a, h => by
    rw [List.takeWhile_cons] at h
    split at h
    · rename_i hx
      rcases List.mem_cons.1 h with rfl | h
      · exact hx
      · exact tws_all p l a h
    · cases h
theorem rds_get {l : List ByteArray} {k : Nat} (h : k < l.length) : rdOf ByteArray.empty l (k : Int) = l[k] := by
  unfold rdOf; rw [Int.toNat_natCast, List.getD_eq_getElem?_getD, List.getElem?_eq_getElem h]; rfl
theorem tws_at (p : ByteArray → Bool) (l : List ByteArray) (k : Nat) (h : k < (l.takeWhile p).length) : p (rdOf ByteArray.empty l (k : Int)) = true := by
  have hl : k < l.length := by
    have := congrArg List.length (List.takeWhile_append_dropWhile (p := p) (l := l)); rw [List.length_append] at this; omega
  rw [rds_get hl]
  have e : l[k] = (l.takeWhile p)[k] := by
    have h2 : (l.takeWhile p ++ l.dropWhile p)[k]? = (l.takeWhile p)[k]? := List.getElem?_append_left h
    rw [List.takeWhile_append_dropWhile, List.getElem?_eq_getElem hl, List.getElem?_eq_getElem h] at h2
    exact Option.some.inj h2
  rw [e]
  exact tws_all p l _ (List.getElem_mem h)
theorem tws_end (p : ByteArray → Bool) (l : List ByteArray) (h : (l.takeWhile p).length < l.length) : p (rdOf ByteArray.empty l ((l.takeWhile p).length : Int)) = false ∧ (l.dropWhile p).head? = some (rdOf ByteArray.empty l ((l.takeWhile p).length : Int)) := by
  rw [rds_get h]
  have hd := tws_drop p l
  rw [List.drop_eq_getElem_cons h] at hd
  have hh : (l.dropWhile p).head? = some l[(l.takeWhile p).length] := by rw [← hd]; rfl
  refine ⟨?_, hh⟩
  have := List.head?_dropWhile_not p l
  rw [hh] at this
  simpa using this
theorem R_emptyS {W : World} {g base : Nat} {ok : Nat → Prop} (h : W.heap[g]? = some (.cells #[] 9 (0, 0))) (hb : base ≤ g) (hk : ok g) : Kd.R Kd.string 9 W base ok (.slice (some ⟨g, 0, none⟩) 0 0) [] :=
  ⟨fun k h => by cases h; exact hk, [], ⟨rfl, .inr ⟨g, 0, #[], rfl, hb, h, Nat.le_refl _, by decide, rfl, rfl⟩⟩, Reps.none _ _⟩
theorem key_row {W : World} {g : Nat} {key : ByteArray} {w0 : World} (h : W.heap[g]? = some (.cells #[.string key] 9 (0, 0))) : ReadsRow (Kd.string.K w0) 1 W (some ⟨g, 0, none⟩) 1 [key] :=
  ⟨rfl, by decide, fun _ => ⟨_, rfl, fun j p hj => by
    cases j with
    | zero =>
      cases hj
      refine ⟨[.string key], rfl, rfl, fun i u hu => ?_⟩
      cases i with
      | zero => cases hu; exact (blk_cell h 0).trans rfl
      | succ i => cases hu
    | succ j => cases hj⟩⟩
theorem fresh_two (w : World) (a b : Obj) : (w.alloc a).heap[w.heap.size]? = some a ∧ ((w.alloc a).alloc b).heap[w.heap.size]? = some a ∧ ((w.alloc a).alloc b).heap[w.heap.size + 1]? = some b ∧ ((w.alloc b).alloc a).heap[w.heap.size]? = some b ∧ ((w.alloc b).alloc a).heap[w.heap.size + 1]? = some a := by
  refine ⟨heap_alloc_new _ _, ?_, ?_, ?_, ?_⟩
  · exact (Below.heap_alloc _ _ _ (by simp)).trans (heap_alloc_new _ _)
  · have := heap_alloc_new (w.alloc a) b; rw [World.size_alloc] at this; exact this
  · exact (Below.heap_alloc _ _ _ (by simp)).trans (heap_alloc_new _ _)
  · have := heap_alloc_new (w.alloc b) a; rw [World.size_alloc] at this; exact this
/-- What the reference's Keys answers. -/
def ringworkref25_Keys.f (k : Nat) (l0 : List (S43)) (a1 : Int) : Option (List ByteArray × Int) :=
  (ringworkref25_QuietAt.f k l0 a1).bind fun q => if q.2 = 0 then (if 0 ≤ q.1 ∧ q.1 < l0.length ∧ l0.length ≤ 100000 then some ((l0.drop (q.1.toNat + 1)).foldl (keyStep a1) [], 0) else none) else some ([], q.2)
set_option maxHeartbeats 4000000 in
set_option maxRecDepth 100000 in
theorem refkeys_yes (k : Nat) (A0 : Option Addr) (c0 : Nat) (l0 : List (S43)) (a1 : Int) (at_ : Nat) (w : World) (hr0 : Kd.C k43 w A0 l0.length l0) (hc0 : l0.length ≤ c0) (hq : ringworkref25_QuietAt.f k l0 a1 = some ((at_ : Int), 0)) (hat : at_ < l0.length) (hle : l0.length ≤ 100000) :
    Calls Tryz.prog 16 #[.slice A0 l0.length c0, .int .i64 a1] w fun e w' => ∃ v0_ : Value, e = .returned (.tuple #[v0_, .int .i64 0]) ∧ Kd.R Kd.string 9 w' w.heap.size (fun _ => True) v0_ ((l0.drop (at_ + 1)).foldl (keyStep a1) []) ∧ Below w.heap.size w w' := by
  have HR0 := Aside0.mk hr0
  have HC0 := Aside0.mk hc0
  have HQA := Aside0.mk hq
  clear hr0 hc0 hq
  go_enter Tryz.func16, Tryz.ntmps16
  go_wp2_with (go_at_call 14; refine (ringworkref25_QuietAt.calls _ _ _ _ _ _ _ _ HR0.out HC0.out HQA.out).mono ?_; rintro r w1 ⟨rfl, hb1⟩)
  have HB1 := Aside0.mk hb1
  clear hb1
  go_loopg [8, 9] (l0.length - at_) (fun kq v8 v9 w' => ∃ (i : Nat) (out : List ByteArray), v9 = .int .i64 i ∧ at_ + 1 ≤ i ∧ i ≤ l0.length ∧ Aside0 (kq + i = l0.length + 1) ∧ Aside0 ((l0.drop i).foldl (keyStep a1) out = (l0.drop (at_ + 1)).foldl (keyStep a1) []) ∧ Aside0 (out.length ≤ i) ∧ Aside0 (Kd.R Kd.string 9 w' w.heap.size (fun _ => True) v8 out) ∧ Aside0 (Below w.heap.size w w'))
  case atStart => exact ⟨at_ + 1, [], by go_num, by omega, by omega, ⟨by omega⟩, ⟨rfl⟩, ⟨by simp⟩, ⟨Kd.R_nil _ _ _ _ _⟩, HB1⟩
  case round =>
    clear HB1
    obtain ⟨i, out, rfl, hi0, hi, HQ, HS, HL, HO, HB⟩ := hrel
    by_cases hlt : i < l0.length
    · obtain ⟨ad, rfl, h0, h1, h2, h3, h4⟩ := at_T43 (Kd.C_below HR0.out HB.out) (i : Int) (by omega) (by omega)
      rw [Int.toNat_natCast] at h0 h1 h2 h3 h4
      have HS2 := Aside0.mk (show (l0.drop (i + 1)).foldl (keyStep a1) (keyStep a1 out (rd_T43 l0 (i : Int))) = (l0.drop (at_ + 1)).foldl (keyStep a1) [] by rw [← HS.out, drop_rd hlt]; rfl)
      have HX := Aside0.mk (show ∀ W, Below w.heap.size w W → W.cell? ⟨(ad.add (i * 5)).block, (ad.add (i * 5)).off + 2, none⟩ = some (.string (rd_T43 l0 (i : Int)).f2) from fun W hW => by
        obtain ⟨a', e, g0, g1, g2, g3, g4⟩ := at_T43 (Kd.C_below HR0.out hW) (i : Int) (by omega) (by omega)
        cases e
        rw [Int.toNat_natCast] at g2
        exact g2)
      generalize rd_T43 l0 (i : Int) = n at h0 h1 h2 h3 h4 HS2 HX
      clear HS
      by_cases k1 : n.f1 = a1
      · have q1 : (n.f1 != a1) = false := by rw [k1]; simp
        by_cases k2 : n.f2.toList = []
        · have q2 : (n.f2.toList == []) = true := by rw [k2]; rfl
          have HS3 := Aside0.mk (show (l0.drop (i + 1)).foldl (keyStep a1) out = (l0.drop (at_ + 1)).foldl (keyStep a1) [] by rw [← HS2.out]; congr 1; unfold keyStep; rw [if_neg (fun h => h.2 k2)])
          clear k1 k2 HS2 HX
          go_wp2
          go_roundg (gk - 1)
          case measure => have := HQ.out; omega
          case rel => exact ⟨i + 1, out, by go_num, by omega, by omega, ⟨by have := HQ.out; omega⟩, HS3, ⟨by have := HL.out; omega⟩, HO, HB⟩
        · have q2 : (n.f2.toList == []) = false := by simpa using k2
          have HS3 := Aside0.mk (show (l0.drop (i + 1)).foldl (keyStep a1) (insK out n.f2) = (l0.drop (at_ + 1)).foldl (keyStep a1) [] by rw [← HS2.out]; congr 1; unfold keyStep; rw [if_pos ⟨k1, k2⟩])
          have HIL := Aside0.mk (insK_len out n.f2)
          obtain ⟨A, c, hv8, hlc, hC⟩ := Kd.R_reads HO.out
          subst hv8
          clear hC k1 k2 HS2 h0 h3 h4
          obtain ⟨kp, hkp⟩ : ∃ kp, kp = (out.takeWhile (fun y => kless y n.f2)).length := ⟨_, rfl⟩
          have hkl : kp ≤ out.length := by
            have := congrArg List.length (List.takeWhile_append_dropWhile (p := fun y => kless y n.f2) (l := out)); rw [List.length_append] at this; omega
          have HKP := Aside0.mk hkp
          clear hkp
          go_wp2
          obtain ⟨gk0, hgk0⟩ : ∃ g, g = gk := ⟨_, rfl⟩
          obtain ⟨w0, hw0⟩ : ∃ W, W = wr := ⟨_, rfl⟩
          clear hgk0 hw0
          have hkb : out.length ≤ 100000 := by have := HL.out; omega
          go_loopg [10] (kp + 1) (fun kq v10 w' => ∃ k : Nat, v10 = .int .i64 k ∧ k ≤ kp ∧ Aside0 (kq + k = kp + 1) ∧ Aside0 (Kd.R Kd.string 9 w' w.heap.size (fun _ => True) (.slice A out.length c) out) ∧ Aside0 (Below w.heap.size w w'))
          case atStart => exact ⟨0, rfl, by omega, ⟨by omega⟩, HO, HB⟩
          case round =>
            clear HO HB
            obtain ⟨k, rfl, hk, HQ2, HO, HB⟩ := hrel
            have hx0 := HX.out _ HB.out
            have q0 := Past.cell hx0
            by_cases hkl2 : k < out.length
            · have d1 : decide ((k : Int) < (out.length : Int)) = true := decide_eq_true (by omega)
              obtain ⟨bd, rfl, g0⟩ := Kd.at_string (Kd.R_reads' HO.out).2.2 (k : Int) (by omega) (by omega)
              rw [Int.toNat_natCast] at g0
              have p0 := Past.cell g0
              clear g0
              by_cases hkk : k < kp
              · have hlss : Op.bytesLess (rdOf ByteArray.empty out (k : Int)).toList n.f2.toList = true := tws_at (fun y => kless y n.f2) out k (by rw [← HKP.out]; exact hkk)
                generalize rdOf ByteArray.empty out (k : Int) = y at p0 hlss
                clear hx0
                go_wp2
                refine wp_region_past (by kernel_rfl) (by kernel_rfl) ?_
                repeat (go_big_quiet_step (fail))
                refine wpQuiet_nil ?_
                rintro _ ⟨p, rfl⟩
                go_wp2
                go_roundg (kp - k)
                case measure => have := HQ2.out; omega
                case rel => exact ⟨k + 1, by go_num, by omega, ⟨by omega⟩, ⟨Kd.R_below HO.out p.h⟩, ⟨below_step HB.out p.h⟩⟩
              · have hke : kp = k := by omega
                subst hke
                obtain ⟨hl1, hl2⟩ := tws_end (fun y => kless y n.f2) out (by rw [← HKP.out]; exact hkl2)
                rw [← HKP.out] at hl1 hl2
                have hlss : Op.bytesLess (rdOf ByteArray.empty out (kp : Int)).toList n.f2.toList = false := hl1
                have d2 : ((kp : Int) == (out.length : Int)) = false := beq_eq_false_iff_ne.2 (by omega)
                clear hl1
                generalize rdOf ByteArray.empty out (kp : Int) = y at p0 hlss hl2
                go_wp2
                refine wp_region_past (by kernel_rfl) (by kernel_rfl) ?_
                repeat (go_big_quiet_step (fail))
                refine wpQuiet_nil ?_
                rintro _ ⟨p, rfl⟩
                have HO5 := Aside0.mk (Kd.R_below HO.out p.h)
                have HB5 := Aside0.mk (below_step HB.out p.h)
                generalize p.W = w5 at HO5 HB5 ⊢
                clear HO HB q0 hx0
                have HO := HO5
                have HB := HB5
                clear HO5 HB5
                have hx0 := HX.out _ HB.out
                have q0 := Past.cell hx0
                obtain ⟨bd', hbd', g0⟩ := Kd.at_string (Kd.R_reads' HO.out).2.2 (kp : Int) (by omega) (by omega)
                cases hbd'
                rw [Int.toNat_natCast] at g0
                have hy2 : rdOf ByteArray.empty out (kp : Int) = y := by
                  have := (tws_end (fun y => kless y n.f2) out (by rw [← HKP.out]; exact hkl2)).2
                  rw [← HKP.out, hl2] at this
                  exact (Option.some.inj this).symm
                rw [hy2] at g0
                have p1 := Past.cell g0
                clear hy2 g0 p0
                by_cases he : y = n.f2
                · have e1 : (y.toList == n.f2.toList) = true := by rw [he]; simp
                  have e2 : (y.toList != n.f2.toList) = false := by rw [he]; simp
                  have HIN := Aside0.mk (show insK out n.f2 = out by unfold insK; rw [if_pos (by rw [hl2, he])])
                  clear he hl2 hlss
                  go_wp2
                  refine wp_region_past (by kernel_rfl) (by kernel_rfl) ?_
                  repeat (go_big_quiet_step (fail))
                  refine wpQuiet_nil ?_
                  rintro _ ⟨p, rfl⟩
                  have HO6 := Aside0.mk (Kd.R_below HO.out p.h)
                  have HB6 := Aside0.mk (below_step HB.out p.h)
                  generalize p.W = w6 at HO6 HB6 ⊢
                  clear HO HB q0 hx0 p1
                  go_wp2
                  go_roundg (l0.length - i)
                  case measure => have := HQ.out; omega
                  case rel => exact ⟨i + 1, out, by go_num, by omega, by omega, ⟨by have := HQ.out; omega⟩, ⟨by rw [← HS3.out, HIN.out]⟩, ⟨by have := HL.out; omega⟩, HO6, HB6⟩
                · have hne : ¬ y.toList = n.f2.toList := fun h => he (by rw [ByteArray.toList_eq, ByteArray.toList_eq] at h; cases y; cases hn : n.f2; rw [hn] at h; simpa using h)
                  have e1 : (y.toList == n.f2.toList) = false := by simpa using hne
                  have e2 : (y.toList != n.f2.toList) = true := by simpa using hne
                  have HIN := Aside0.mk (show insK out n.f2 = out.take kp ++ n.f2 :: out.drop kp by unfold insK; rw [if_neg (fun h => by rw [hl2] at h; exact he (Option.some.inj h)), HKP.out, tws_take, tws_drop])
                  clear he hl2 hlss hne
                  go_wp2
                  refine wp_region_past (by kernel_rfl) (by kernel_rfl) ?_
                  repeat (go_big_quiet_step (fail))
                  refine wpQuiet_nil ?_
                  rintro _ ⟨p, rfl⟩
                  have HO6 := Aside0.mk (Kd.R_below HO.out p.h)
                  have HB6 := Aside0.mk (below_step HB.out p.h)
                  generalize p.W = w6 at HO6 HB6 ⊢
                  clear HO HB q0 hx0 p1 d1 d2 e1 e2
                  go_wp2
                  obtain ⟨i0, hi0', _, hsz0, _⟩ := info_parts info9
                  have hsz0 : i0.size = 1 := hsz0
                  have hcf := cut_from (P := Tryz.prog) 33 9 .i64 Tryz.underlying33 hi0' 1 hsz0 (some bd) out.length c (kp : Int) (by omega) (by omega)
                  have hct := cut_to (P := Tryz.prog) 33 9 .i64 Tryz.underlying33 hi0' (some bd) out.length c (kp : Int) (by omega) (by omega) hlc
                  rw [Int.toNat_natCast] at hct hcf
                  have HT6 := Aside0.mk (show Kd.C Kd.string w6 (some bd) kp (out.take kp) by have := Kd.C_take (m := kp) (Kd.R_reads' HO6.out).2.2 hkl; rwa [List.length_take, Nat.min_eq_left hkl] at this)
                  have HS6 := Aside0.mk (show Kd.C Kd.string w6 (if c = kp then (some bd) else (some bd).map (·.add (kp * 1))) (out.length - kp) (out.drop kp) by have := Kd.C_drop (m := kp) (Kd.R_reads' HO6.out).2.2 hkl hlc; rw [List.length_drop] at this; exact this)
                  generalize (if c = kp then (some bd) else (some bd).map (·.add (kp * 1))) = B0 at hcf HS6
                  have hx6 := HX.out _ HB6.out
                  have HL6 := Aside0.mk (show (out.take kp).length + 1 + (out.length - kp) ≤ 100001 ∧ kp ≤ 100000 by rw [List.length_take]; omega)
                  have HF := Aside0.mk (fresh_two w6 (.cells #[] 9) (.cells #[.string n.f2] 9))
                  have b0 : (0 : Int) ≤ (kp : Int) := by omega
                  have b1 : (kp : Int) ≤ (out.length : Int) := by omega
                  have b2 : (0 : Int) ≤ (i : Int) := by omega
                  have b3 : (i : Int) < (l0.length : Int) := by omega
                  go_region_held3 (fun w' => w'.cell? ⟨(ad.add (i * 5)).block, (ad.add (i * 5)).off + 2, none⟩ = some (.string n.f2)) (first | go_keep | exact HX.out _ (below_step HB6.out hb9) | exact HX.out _ (below_step HB6.out hb8) | exact HX.out _ (below_step HB6.out hb7))
                    ((first
                      | (refine Kd.R_append_rows_step Kd.string (Rr := Kd.string.K w6) (w0 := w6) w6.heap.size (by rfl) (.tmp 77) (.tmp 80) 33 9 (.string ⟨#[]⟩) 16 (by rfl) Tryz.underlying33 info9 (by rfl) (by decide) (by decide) (.slice (some ⟨w6.heap.size, 0, none⟩) 0 0) [] (out.take kp) (some bd) kp c (fun _ => True) (fun _ => False) (by rfl) (by rfl) (R_emptyS (by first | exact HF.out.1 | exact HF.out.2.1) (Nat.le_refl _) trivial) (ReadsRow.imp_ HT6.out (by repeat (first | exact Below.refl _ _ | apply below_drew1 | apply below_alloc)) (fun _ _ hp => hp)) (fun _ _ h => h) (fun _ h => h.elim) (fun _ _ => trivial) (by repeat (first | exact Below.refl _ _ | apply below_drew1 | apply below_alloc)) (by first | (simp; done) | (simp; omega)) (by have := HL6.out; simp; omega) ?_; intro v7 w7 ho7 hb7 hg7 _)
                      | (refine Kd.R_append_rows_step Kd.string (Rr := Kd.string.K w6) (w0 := w6) w6.heap.size (by rfl) (.tmp 77) (.tmp 80) 33 9 (.string ⟨#[]⟩) 16 (by rfl) Tryz.underlying33 info9 (by rfl) (by decide) (by decide) (.slice (some ⟨w6.heap.size + 1, 0, none⟩) 0 0) [] (out.take kp) (some bd) kp c (fun _ => True) (fun _ => False) (by rfl) (by rfl) (R_emptyS (by exact HF.out.2.2.2.2) (Nat.le_succ _) trivial) (ReadsRow.imp_ HT6.out (by repeat (first | exact Below.refl _ _ | apply below_drew1 | apply below_alloc)) (fun _ _ hp => hp)) (fun _ _ h => h) (fun _ h => h.elim) (fun _ _ => trivial) (by repeat (first | exact Below.refl _ _ | apply below_drew1 | apply below_alloc)) (by first | (simp; done) | (simp; omega)) (by have := HL6.out; simp; omega) ?_; intro v7 w7 ho7 hb7 hg7 _)
                      | (refine Kd.R_append_rows_step Kd.string (Rr := Kd.string.K w6) (w0 := w6) w6.heap.size (by rfl) (.tmp 81) (.tmp 87) 33 9 (.string ⟨#[]⟩) 16 (by rfl) Tryz.underlying33 info9 (by rfl) (by decide) (by decide) v7 ([] ++ out.take kp) [n.f2] (some ⟨w7.heap.size, 0, none⟩) 1 1 (fun _ => True) (fun _ => False) (by rfl) (by rfl) (by first | exact Kd.R_drew (Kd.R_alloc ho7 _) | exact Kd.R_alloc ho7 _) (key_row (by exact heap_alloc_new w7 _)) (fun _ _ h => h) (fun _ h => h.elim) (fun _ _ => trivial) (by repeat (first | exact hb7 | apply below_drew1 | apply below_alloc)) (by have := hb7.size; simp; omega) (by have := HL6.out; simp; omega) ?_; intro v8 w8 ho8 hb8 hg8 _)
                      | (refine Kd.R_append_rows_step Kd.string (Rr := Kd.string.K w6) (w0 := w6) w6.heap.size (by rfl) (.tmp 81) (.tmp 87) 33 9 (.string ⟨#[]⟩) 16 (by rfl) Tryz.underlying33 info9 (by rfl) (by decide) (by decide) v7 ([] ++ out.take kp) [n.f2] (some ⟨w6.heap.size + 1, 0, none⟩) 1 1 (fun _ => True) (fun _ => False) (by rfl) (by rfl) (by first | exact ho7 | exact Kd.R_drew ho7) (key_row (by exact (hg7.block _ (by first | (simp; done) | (simp; omega)) (by simp [Value.ownBlock])).trans HF.out.2.2.1)) (fun _ _ h => h) (fun _ h => h.elim) (fun _ _ => trivial) (by repeat (first | exact hb7 | apply below_drew1 | apply below_alloc)) (by exact hb7.size) (by have := HL6.out; simp; omega) ?_; intro v8 w8 ho8 hb8 hg8 _)
                      | (refine Kd.R_append_rows_step Kd.string (Rr := Kd.string.K w6) (w0 := w6) w6.heap.size (by rfl) (.tmp 81) (.tmp 87) 33 9 (.string ⟨#[]⟩) 16 (by rfl) Tryz.underlying33 info9 (by rfl) (by decide) (by decide) v7 ([] ++ out.take kp) [n.f2] (some ⟨w6.heap.size, 0, none⟩) 1 1 (fun _ => True) (fun _ => False) (by rfl) (by rfl) (by first | exact ho7 | exact Kd.R_drew ho7) (key_row (by exact (hg7.block _ (by first | (simp; done) | (simp; omega)) (by simp [Value.ownBlock])).trans HF.out.2.2.2.1)) (fun _ _ h => h) (fun _ h => h.elim) (fun _ _ => trivial) (by repeat (first | exact hb7 | apply below_drew1 | apply below_alloc)) (by exact hb7.size) (by have := HL6.out; simp; omega) ?_; intro v8 w8 ho8 hb8 hg8 _)
                      | (refine Kd.R_append_rows_step Kd.string (Rr := Kd.string.K w6) (w0 := w6) w6.heap.size (by rfl) (.tmp 88) (.tmp 91) 33 9 (.string ⟨#[]⟩) 16 (by rfl) Tryz.underlying33 info9 (by rfl) (by decide) (by decide) v8 ([] ++ out.take kp ++ [n.f2]) (out.drop kp) B0 (out.length - kp) (c - kp) (fun _ => True) (fun _ => False) (by rfl) (by rfl) ho8 (ReadsRow.imp_ HS6.out hb8 (fun _ _ hp => hp)) (fun _ _ h => h) (fun _ h => h.elim) (fun _ _ => trivial) hb8 hb8.size (by have := HL6.out; simp; omega) ?_; intro v9 w9 ho9 hb9 hg9 _)))
                  all_goals
                    have HB9 := Aside0.mk (below_step HB6.out hb9)
                    have HO9 := Aside0.mk (show Kd.R Kd.string 9 w9 w.heap.size (fun _ => True) v9 (insK out n.f2) by rw [HIN.out]; have := Kd.R_lower ho9 (below_size HB6.out); simpa using this)
                    clear ho7 hb7 hg7 ho8 hb8 hg8 ho9 hb9 hg9
                    go_wp2
                    go_roundg (l0.length - i)
                    case measure => have := HQ.out; omega
                    case rel => exact ⟨i + 1, insK out n.f2, by go_num, by omega, by omega, ⟨by have := HQ.out; omega⟩, HS3, ⟨by have := HIL.out; have := HL.out; omega⟩, HO9, HB9⟩
            · have hke : kp = k := by omega
              subst hke
              have d1 : decide ((kp : Int) < (out.length : Int)) = false := decide_eq_false (by omega)
              have d2 : ((kp : Int) == (out.length : Int)) = true := beq_iff_eq.2 (by omega)
              have HIN := Aside0.mk (show insK out n.f2 = out.take kp ++ n.f2 :: out.drop kp by
                have hd : (out.dropWhile fun y => kless y n.f2) = [] := by rw [← tws_drop, ← HKP.out]; exact List.drop_eq_nil_of_le (by omega)
                unfold insK; rw [if_neg (fun h => by rw [hd] at h; cases h), HKP.out, tws_take, tws_drop])
              go_wp2
              refine wp_region_past (by kernel_rfl) (by kernel_rfl) ?_
              repeat (go_big_quiet_step (fail))
              refine wpQuiet_nil ?_
              rintro _ ⟨p, rfl⟩
              have HO5 := Aside0.mk (Kd.R_below HO.out p.h)
              have HB5 := Aside0.mk (below_step HB.out p.h)
              generalize p.W = w5 at HO5 HB5 ⊢
              clear HO HB q0 hx0
              have HO := HO5
              have HB := HB5
              clear HO5 HB5
              have hx0 := HX.out _ HB.out
              have q0 := Past.cell hx0
              go_wp2
              refine wp_region_past (by kernel_rfl) (by kernel_rfl) ?_
              repeat (go_big_quiet_step (fail))
              refine wpQuiet_nil ?_
              rintro _ ⟨p, rfl⟩
              have HO6 := Aside0.mk (Kd.R_below HO.out p.h)
              have HB6 := Aside0.mk (below_step HB.out p.h)
              generalize p.W = w6 at HO6 HB6 ⊢
              clear HO HB q0 hx0 d1 d2
              go_wp2
              obtain ⟨i0, hi0', _, hsz0, _⟩ := info_parts info9
              have hsz0 : i0.size = 1 := hsz0
              have hcf := cut_from (P := Tryz.prog) 33 9 .i64 Tryz.underlying33 hi0' 1 hsz0 A out.length c (kp : Int) (by omega) (by omega)
              have hct := cut_to (P := Tryz.prog) 33 9 .i64 Tryz.underlying33 hi0' A out.length c (kp : Int) (by omega) (by omega) hlc
              rw [Int.toNat_natCast] at hct hcf
              have HT6 := Aside0.mk (show Kd.C Kd.string w6 A kp (out.take kp) by have := Kd.C_take (m := kp) (Kd.R_reads' HO6.out).2.2 hkl; rwa [List.length_take, Nat.min_eq_left hkl] at this)
              have HS6 := Aside0.mk (show Kd.C Kd.string w6 (if c = kp then A else A.map (·.add (kp * 1))) (out.length - kp) (out.drop kp) by have := Kd.C_drop (m := kp) (Kd.R_reads' HO6.out).2.2 hkl hlc; rw [List.length_drop] at this; exact this)
              generalize (if c = kp then A else A.map (·.add (kp * 1))) = B0 at hcf HS6
              have hx6 := HX.out _ HB6.out
              have HL6 := Aside0.mk (show (out.take kp).length + 1 + (out.length - kp) ≤ 100001 ∧ kp ≤ 100000 by rw [List.length_take]; omega)
              have HF := Aside0.mk (fresh_two w6 (.cells #[] 9) (.cells #[.string n.f2] 9))
              have b0 : (0 : Int) ≤ (kp : Int) := by omega
              have b1 : (kp : Int) ≤ (out.length : Int) := by omega
              have b2 : (0 : Int) ≤ (i : Int) := by omega
              have b3 : (i : Int) < (l0.length : Int) := by omega
              go_region_held3 (fun w' => w'.cell? ⟨(ad.add (i * 5)).block, (ad.add (i * 5)).off + 2, none⟩ = some (.string n.f2)) (first | go_keep | exact HX.out _ (below_step HB6.out hb9) | exact HX.out _ (below_step HB6.out hb8) | exact HX.out _ (below_step HB6.out hb7))
                ((first
                  | (refine Kd.R_append_rows_step Kd.string (Rr := Kd.string.K w6) (w0 := w6) w6.heap.size (by rfl) (.tmp 77) (.tmp 80) 33 9 (.string ⟨#[]⟩) 16 (by rfl) Tryz.underlying33 info9 (by rfl) (by decide) (by decide) (.slice (some ⟨w6.heap.size, 0, none⟩) 0 0) [] (out.take kp) A kp c (fun _ => True) (fun _ => False) (by rfl) (by rfl) (R_emptyS (by first | exact HF.out.1 | exact HF.out.2.1) (Nat.le_refl _) trivial) (ReadsRow.imp_ HT6.out (by repeat (first | exact Below.refl _ _ | apply below_drew1 | apply below_alloc)) (fun _ _ hp => hp)) (fun _ _ h => h) (fun _ h => h.elim) (fun _ _ => trivial) (by repeat (first | exact Below.refl _ _ | apply below_drew1 | apply below_alloc)) (by first | (simp; done) | (simp; omega)) (by have := HL6.out; simp; omega) ?_; intro v7 w7 ho7 hb7 hg7 _)
                  | (refine Kd.R_append_rows_step Kd.string (Rr := Kd.string.K w6) (w0 := w6) w6.heap.size (by rfl) (.tmp 77) (.tmp 80) 33 9 (.string ⟨#[]⟩) 16 (by rfl) Tryz.underlying33 info9 (by rfl) (by decide) (by decide) (.slice (some ⟨w6.heap.size + 1, 0, none⟩) 0 0) [] (out.take kp) A kp c (fun _ => True) (fun _ => False) (by rfl) (by rfl) (R_emptyS (by exact HF.out.2.2.2.2) (Nat.le_succ _) trivial) (ReadsRow.imp_ HT6.out (by repeat (first | exact Below.refl _ _ | apply below_drew1 | apply below_alloc)) (fun _ _ hp => hp)) (fun _ _ h => h) (fun _ h => h.elim) (fun _ _ => trivial) (by repeat (first | exact Below.refl _ _ | apply below_drew1 | apply below_alloc)) (by first | (simp; done) | (simp; omega)) (by have := HL6.out; simp; omega) ?_; intro v7 w7 ho7 hb7 hg7 _)
                  | (refine Kd.R_append_rows_step Kd.string (Rr := Kd.string.K w6) (w0 := w6) w6.heap.size (by rfl) (.tmp 81) (.tmp 87) 33 9 (.string ⟨#[]⟩) 16 (by rfl) Tryz.underlying33 info9 (by rfl) (by decide) (by decide) v7 ([] ++ out.take kp) [n.f2] (some ⟨w7.heap.size, 0, none⟩) 1 1 (fun _ => True) (fun _ => False) (by rfl) (by rfl) (by first | exact Kd.R_drew (Kd.R_alloc ho7 _) | exact Kd.R_alloc ho7 _) (key_row (by exact heap_alloc_new w7 _)) (fun _ _ h => h) (fun _ h => h.elim) (fun _ _ => trivial) (by repeat (first | exact hb7 | apply below_drew1 | apply below_alloc)) (by have := hb7.size; simp; omega) (by have := HL6.out; simp; omega) ?_; intro v8 w8 ho8 hb8 hg8 _)
                  | (refine Kd.R_append_rows_step Kd.string (Rr := Kd.string.K w6) (w0 := w6) w6.heap.size (by rfl) (.tmp 81) (.tmp 87) 33 9 (.string ⟨#[]⟩) 16 (by rfl) Tryz.underlying33 info9 (by rfl) (by decide) (by decide) v7 ([] ++ out.take kp) [n.f2] (some ⟨w6.heap.size + 1, 0, none⟩) 1 1 (fun _ => True) (fun _ => False) (by rfl) (by rfl) (by first | exact ho7 | exact Kd.R_drew ho7) (key_row (by exact (hg7.block _ (by first | (simp; done) | (simp; omega)) (by simp [Value.ownBlock])).trans HF.out.2.2.1)) (fun _ _ h => h) (fun _ h => h.elim) (fun _ _ => trivial) (by repeat (first | exact hb7 | apply below_drew1 | apply below_alloc)) (by exact hb7.size) (by have := HL6.out; simp; omega) ?_; intro v8 w8 ho8 hb8 hg8 _)
                  | (refine Kd.R_append_rows_step Kd.string (Rr := Kd.string.K w6) (w0 := w6) w6.heap.size (by rfl) (.tmp 81) (.tmp 87) 33 9 (.string ⟨#[]⟩) 16 (by rfl) Tryz.underlying33 info9 (by rfl) (by decide) (by decide) v7 ([] ++ out.take kp) [n.f2] (some ⟨w6.heap.size, 0, none⟩) 1 1 (fun _ => True) (fun _ => False) (by rfl) (by rfl) (by first | exact ho7 | exact Kd.R_drew ho7) (key_row (by exact (hg7.block _ (by first | (simp; done) | (simp; omega)) (by simp [Value.ownBlock])).trans HF.out.2.2.2.1)) (fun _ _ h => h) (fun _ h => h.elim) (fun _ _ => trivial) (by repeat (first | exact hb7 | apply below_drew1 | apply below_alloc)) (by exact hb7.size) (by have := HL6.out; simp; omega) ?_; intro v8 w8 ho8 hb8 hg8 _)
                  | (refine Kd.R_append_rows_step Kd.string (Rr := Kd.string.K w6) (w0 := w6) w6.heap.size (by rfl) (.tmp 88) (.tmp 91) 33 9 (.string ⟨#[]⟩) 16 (by rfl) Tryz.underlying33 info9 (by rfl) (by decide) (by decide) v8 ([] ++ out.take kp ++ [n.f2]) (out.drop kp) B0 (out.length - kp) (c - kp) (fun _ => True) (fun _ => False) (by rfl) (by rfl) ho8 (ReadsRow.imp_ HS6.out hb8 (fun _ _ hp => hp)) (fun _ _ h => h) (fun _ h => h.elim) (fun _ _ => trivial) hb8 hb8.size (by have := HL6.out; simp; omega) ?_; intro v9 w9 ho9 hb9 hg9 _)))
              all_goals
                have HB9 := Aside0.mk (below_step HB6.out hb9)
                have HO9 := Aside0.mk (show Kd.R Kd.string 9 w9 w.heap.size (fun _ => True) v9 (insK out n.f2) by rw [HIN.out]; have := Kd.R_lower ho9 (below_size HB6.out); simpa using this)
                clear ho7 hb7 hg7 ho8 hb8 hg8 ho9 hb9 hg9
                go_wp2
                go_roundg (l0.length - i)
                case measure => have := HQ.out; omega
                case rel => exact ⟨i + 1, insK out n.f2, by go_num, by omega, by omega, ⟨by have := HQ.out; omega⟩, HS3, ⟨by have := HIL.out; have := HL.out; omega⟩, HO9, HB9⟩
      · have q1 : (n.f1 != a1) = true := by simpa using k1
        have HS3 := Aside0.mk (show (l0.drop (i + 1)).foldl (keyStep a1) out = (l0.drop (at_ + 1)).foldl (keyStep a1) [] by rw [← HS2.out]; congr 1; unfold keyStep; rw [if_neg (fun h => k1 h.1)])
        clear k1 HS2 HX
        go_wp2
        go_roundg (gk - 1)
        case measure => have := HQ.out; omega
        case rel => exact ⟨i + 1, out, by go_num, by omega, by omega, ⟨by have := HQ.out; omega⟩, HS3, ⟨by have := HL.out; omega⟩, HO, HB⟩
    · have hke : i = l0.length := by omega
      subst hke
      have HS' := Aside0.mk (show out = (l0.drop (at_ + 1)).foldl (keyStep a1) [] by rw [← HS.out, List.drop_length]; rfl)
      clear HS
      go_wp2
      go_ret2
      exact ⟨_, rfl, by rw [← HS'.out]; exact HO.out, HB.out⟩
theorem refkeys_no (k : Nat) (at_ e : Int) (A0 : Option Addr) (c0 : Nat) (l0 : List (S43)) (a1 : Int) (w : World) (hr0 : Kd.C k43 w A0 l0.length l0) (hc0 : l0.length ≤ c0) (hq : ringworkref25_QuietAt.f k l0 a1 = some (at_, e)) (h : e ≠ 0) :
    Calls Tryz.prog 16 #[.slice A0 l0.length c0, .int .i64 a1] w fun r w' => r = .returned (.tuple #[.slice none 0 0, .int .i64 e]) ∧ Below w.heap.size w w' := by
  have HR0 := Aside0.mk hr0
  have HC0 := Aside0.mk hc0
  have HQA := Aside0.mk hq
  have h1 : (e != 0) = true := bne_iff_ne.2 h
  clear hr0 hc0 hq h
  go_enter Tryz.func16, Tryz.ntmps16
  go_wp2_with (go_at_call 14; refine (ringworkref25_QuietAt.calls _ _ _ _ _ _ _ _ HR0.out HC0.out HQA.out).mono ?_; rintro r w1 ⟨rfl, hb1⟩)
  go_ret2
  exact ⟨rfl, hb1⟩
theorem ringworkref25_Keys.calls (k : Nat) (A0 : Option Addr) (c0 : Nat) (l0 : List (S43)) (a1 : Int) (r1 : List ByteArray) (r2 : Int) (w : World) (hr0 : Kd.C k43 w A0 l0.length l0) (hc0 : l0.length ≤ c0) (h : ringworkref25_Keys.f k l0 a1 = some (r1, r2)) :
    Calls Tryz.prog 16 #[.slice A0 l0.length c0, .int .i64 a1] w fun e w' => ∃ v0_ : Value, e = .returned (.tuple #[v0_, .int .i64 r2]) ∧ Kd.R Kd.string 9 w' w.heap.size (fun _ => True) v0_ r1 ∧ Below w.heap.size w w' := by
  unfold ringworkref25_Keys.f at h
  obtain ⟨⟨at_, e⟩, hq, h⟩ := Option.bind_eq_some_iff.1 h
  by_cases h0 : e = 0
  · subst h0
    simp only [if_true] at h
    by_cases hc : 0 ≤ at_ ∧ at_ < l0.length ∧ l0.length ≤ 100000
    · rw [if_pos hc] at h
      obtain ⟨rfl, rfl⟩ := Prod.mk.inj (Option.some.inj h)
      obtain ⟨n, rfl⟩ : ∃ n : Nat, at_ = n := ⟨at_.toNat, by omega⟩
      exact refkeys_yes k A0 c0 l0 a1 n w hr0 hc0 hq (by omega) hc.2.2
    · rw [if_neg hc] at h; cases h
  · simp only [if_neg h0] at h
    obtain ⟨rfl, rfl⟩ := Prod.mk.inj (Option.some.inj h)
    exact (refkeys_no k at_ e A0 c0 l0 a1 w hr0 hc0 hq h0).mono fun e w' ⟨h1, h2⟩ => ⟨_, h1, Kd.R_nil _ _ _ _ _, h2⟩
end Go.Proofs.YteblpjnkinghoaaGreat.J
/- The two programs' Keys are one. -/
namespace Go.Proofs.YteblpjnkinghoaaGreat.J
open Go.RowKit Go.Proofs.YteblpjnkinghoaaGreatW.PrintWords
theorem kless_ne {a b : ByteArray} (h : kless a b = true) : a ≠ b := fun e => by rw [e, kless_irr] at h; cases h
def SortedS (l : List ByteArray) : Prop := l.Pairwise fun a b => kless a b = true
theorem sortedS_ext : ∀ {a b : List ByteArray}, SortedS a → SortedS b → (∀ x, x ∈ a ↔ x ∈ b) → a = b
  | [], [], _, _, _ => rfl
  | [], y :: b, _, _, h => by have := (h y).2 List.mem_cons_self; cases this
  | x :: a, [], _, _, h => by have := (h x).1 List.mem_cons_self; cases this
  | x :: a, y :: b, ha, hb, h => by
    have ha' := List.pairwise_cons.1 ha
    have hb' := List.pairwise_cons.1 hb
    have e : x = y := by
      rcases List.mem_cons.1 ((h x).1 List.mem_cons_self) with h1 | h1
      · exact h1
      · rcases List.mem_cons.1 ((h y).2 List.mem_cons_self) with h2 | h2
        · exact h2.symm
        · have := kless_trans (hb'.1 x h1) (ha'.1 y h2); rw [kless_irr] at this; cases this
    subst e
    rw [sortedS_ext ha'.2 hb'.2 (fun z => ?_)]
    have hz := h z
    rw [List.mem_cons, List.mem_cons] at hz
    constructor
    · intro hm
      rcases hz.1 (.inr hm) with rfl | h2
      · exact absurd rfl (kless_ne (ha'.1 z hm))
      · exact h2
    · intro hm
      rcases hz.2 (.inr hm) with rfl | h2
      · exact absurd rfl (kless_ne (hb'.1 z hm))
      · exact h2
theorem insK_mem {out : List ByteArray} {key K : ByteArray} : K ∈ insK out key ↔ K ∈ out ∨ K = key := by
  have hsp : K ∈ out ↔ K ∈ out.takeWhile (fun y => kless y key) ∨ K ∈ out.dropWhile (fun y => kless y key) := by
    conv => lhs; rw [← List.takeWhile_append_dropWhile (p := fun y => kless y key) (l := out)]
    exact List.mem_append
  unfold insK
  split
  · rename_i hh
    constructor
    · exact .inl
    · rintro (h | rfl)
      · exact h
      · exact hsp.2 (.inr (List.mem_of_mem_head? (by rw [hh]; rfl)))
  · rw [List.mem_append, List.mem_cons, hsp]
    constructor
    · rintro (h | h | h)
      · exact .inl (.inl h)
      · exact .inr h
      · exact .inl (.inr h)
    · rintro ((h | h) | h)
      · exact .inl h
      · exact .inr (.inr h)
      · exact .inr (.inl h)
theorem insK_sorted {out : List ByteArray} (key : ByteArray) (hs : SortedS out) : SortedS (insK out key) := by
  unfold insK
  split
  · exact hs
  · rename_i hh
    have hs' : SortedS (out.takeWhile (fun y => kless y key) ++ out.dropWhile (fun y => kless y key)) := by rw [List.takeWhile_append_dropWhile]; exact hs
    obtain ⟨h1, h2, h3⟩ := List.pairwise_append.1 hs'
    have hrest : ∀ b ∈ out.dropWhile (fun y => kless y key), kless key b = true := fun b hb => by
      have hn := List.head?_dropWhile_not (fun y => kless y key) out
      cases hd : out.dropWhile (fun y => kless y key) with
      | nil => rw [hd] at hb; cases hb
      | cons y r =>
        rw [hd] at hb hh hn h2
        have hy : kless y key = false := by simpa using hn
        have hky : kless key y = true := kless_tri hy (fun e => hh (by rw [e]; rfl))
        rcases List.mem_cons.1 hb with rfl | hb
        · exact hky
        · exact kless_trans hky ((List.pairwise_cons.1 h2).1 b hb)
    refine List.pairwise_append.2 ⟨h1, List.pairwise_cons.2 ⟨hrest, h2⟩, fun a ha b hb => ?_⟩
    have hak := tws_all (fun y => kless y key) out a ha
    rcases List.mem_cons.1 hb with rfl | hb
    · exact hak
    · exact h3 a ha b hb
theorem keys_fold (u : Int) : ∀ (s : List S43) (out : List ByteArray), SortedS out → SortedS (s.foldl (keyStep u) out) ∧ ∀ K, K ∈ s.foldl (keyStep u) out ↔ K ∈ out ∨ ∃ n ∈ s, n.f1 = u ∧ n.f2.toList ≠ [] ∧ n.f2 = K
  | [], out, hs => ⟨hs, fun K => by simp⟩
  | n :: s, out, hs => by
    have hs' : SortedS (keyStep u out n) := by unfold keyStep; split; exact insK_sorted _ hs; exact hs
    obtain ⟨h1, h2⟩ := keys_fold u s (keyStep u out n) hs'
    refine ⟨h1, fun K => ?_⟩
    rw [List.foldl_cons, h2 K]
    have hk : K ∈ keyStep u out n ↔ K ∈ out ∨ (n.f1 = u ∧ n.f2.toList ≠ [] ∧ n.f2 = K) := by
      unfold keyStep
      split
      · rename_i hc
        rw [insK_mem]
        constructor
        · rintro (h | rfl)
          · exact .inl h
          · exact .inr ⟨hc.1, hc.2, rfl⟩
        · rintro (h | ⟨_, _, h⟩)
          · exact .inl h
          · exact .inr h.symm
      · rename_i hc
        exact ⟨.inl, fun h => h.elim id (fun h => absurd ⟨h.1, h.2.1⟩ hc)⟩
    rw [hk]
    constructor
    · rintro ((h | h) | ⟨m, hm, h⟩)
      · exact .inl h
      · exact .inr ⟨n, List.mem_cons_self, h⟩
      · exact .inr ⟨m, List.mem_cons_of_mem _ hm, h⟩
    · rintro (h | ⟨m, hm, h⟩)
      · exact .inl (.inl h)
      · rcases List.mem_cons.1 hm with rfl | hm
        · exact .inl (.inr h)
        · exact .inr ⟨m, hm, h⟩
theorem undo_fold (u : Int) : ∀ (s : List S43) (met : ByteArray → Bool) (out : List S48), (∀ k, met k = true ↔ k ∈ out.map (·.f0)) → (out.map (·.f0)).Nodup →
    ((s.foldl (undoStep u) (met, out)).2.map (·.f0)).Nodup ∧ ∀ K, K ∈ (s.foldl (undoStep u) (met, out)).2.map (·.f0) ↔ K ∈ out.map (·.f0) ∨ ∃ n ∈ s, n.f1 = u ∧ n.f0 = 2 ∧ n.f2 = K
  | [], met, out, hm, hn => ⟨hn, fun K => by simp⟩
  | n :: s, met, out, hm, hn => by
    rw [List.foldl_cons]
    by_cases hc : n.f1 = u ∧ n.f0 = 2
    · cases hk : met n.f2 with
      | false =>
        rw [show undoStep u (met, out) n = (fun k => if k = n.f2 then true else met k, out ++ [imgOf n]) by unfold undoStep; rw [if_pos ⟨hc.1, hc.2, hk⟩]]
        have hnm : n.f2 ∉ out.map (·.f0) := fun h => by have := (hm _).2 h; rw [hk] at this; cases this
        obtain ⟨h1, h2⟩ := undo_fold u s (fun k => if k = n.f2 then true else met k) (out ++ [imgOf n]) (fun k => by
          rw [List.map_append, List.mem_append]
          by_cases hkk : k = n.f2
          · rw [if_pos hkk]; exact ⟨fun _ => .inr (by rw [hkk]; exact List.mem_singleton.2 rfl), fun _ => rfl⟩
          · rw [if_neg hkk, hm]
            exact ⟨.inl, fun h => h.elim id (fun h => absurd (List.mem_singleton.1 h) hkk)⟩) (by
          rw [List.map_append, List.nodup_append]
          exact ⟨hn, by simp, fun a ha b hb => by rw [List.mem_singleton.1 hb]; exact fun e => hnm (by have e' : a = n.f2 := e; rw [← e']; exact ha)⟩)
        refine ⟨h1, fun K => ?_⟩
        rw [h2 K, List.map_append, List.mem_append]
        constructor
        · rintro ((h | h) | ⟨m, hm', h⟩)
          · exact .inl h
          · exact .inr ⟨n, List.mem_cons_self, hc.1, hc.2, (List.mem_singleton.1 h).symm⟩
          · exact .inr ⟨m, List.mem_cons_of_mem _ hm', h⟩
        · rintro (h | ⟨m, hm', h⟩)
          · exact .inl (.inl h)
          · rcases List.mem_cons.1 hm' with rfl | hm'
            · exact .inl (.inr (List.mem_singleton.2 h.2.2.symm))
            · exact .inr ⟨m, hm', h⟩
      | true =>
        rw [show undoStep u (met, out) n = (met, out) by unfold undoStep; rw [if_neg (fun hh => by have h3 : met _ = false := hh.2.2; rw [hk] at h3; cases h3)]]
        obtain ⟨h1, h2⟩ := undo_fold u s met out hm hn
        refine ⟨h1, fun K => ?_⟩
        rw [h2 K]
        constructor
        · rintro (h | ⟨m, hm', h⟩)
          · exact .inl h
          · exact .inr ⟨m, List.mem_cons_of_mem _ hm', h⟩
        · rintro (h | ⟨m, hm', h⟩)
          · exact .inl h
          · rcases List.mem_cons.1 hm' with rfl | hm'
            · exact .inl (by rw [← h.2.2]; exact (hm _).1 hk)
            · exact .inr ⟨m, hm', h⟩
    · rw [show undoStep u (met, out) n = (met, out) by unfold undoStep; rw [if_neg (fun hh => hc ⟨hh.1, hh.2.1⟩)]]
      obtain ⟨h1, h2⟩ := undo_fold u s met out hm hn
      refine ⟨h1, fun K => ?_⟩
      rw [h2 K]
      constructor
      · rintro (h | ⟨m, hm', h⟩)
        · exact .inl h
        · exact .inr ⟨m, List.mem_cons_of_mem _ hm', h⟩
      · rintro (h | ⟨m, hm', h⟩)
        · exact .inl h
        · rcases List.mem_cons.1 hm' with rfl | hm'
          · exact absurd ⟨h.1, h.2.1⟩ hc
          · exact .inr ⟨m, hm', h⟩
/-! ### Strings sorted -/
theorem bytes_lt : ∀ (a b : List UInt8), Op.bytesLess a b = decide (a < b)
  | _, [] => by rw [decide_eq_false (by simp)]; simp [Op.bytesLess]
  | [], _ :: _ => by rw [decide_eq_true (by simp)]; rfl
  | a :: x, b :: y => by
    rw [Op.bytesLess, bytes_lt x y, Bool.eq_iff_iff]
    simp only [Bool.or_eq_true, Bool.and_eq_true, decide_eq_true_eq, beq_iff_eq, List.cons_lt_cons_iff]
theorem kless_toL (a b : ByteArray) : kless a b = decide (toL a < toL b) := by
  unfold kless toL; rw [ByteArray.toList_eq, ByteArray.toList_eq]; exact bytes_lt _ _
theorem sortS_mem (l : List ByteArray) (x : ByteArray) : x ∈ sortS l ↔ x ∈ l := by
  unfold sortS
  rw [List.mem_map]
  constructor
  · rintro ⟨y, hy, rfl⟩
    rw [(List.mergeSort_perm _ _).mem_iff, List.mem_map] at hy
    obtain ⟨z, hz, rfl⟩ := hy
    rw [of_toL]; exact hz
  · intro hx
    exact ⟨toL x, (List.mergeSort_perm _ _).mem_iff.2 (List.mem_map.2 ⟨x, hx, rfl⟩), of_toL x⟩
theorem toL_inj {a b : ByteArray} (h : toL a = toL b) : a = b := by rw [← of_toL a, h, of_toL]
theorem sortS_sorted {l : List ByteArray} (hn : l.Nodup) : SortedS (sortS l) := by
  have hp := List.pairwise_mergeSort (le := fun x y : List UInt8 => decide (x ≤ y)) (fun a b c h1 h2 => by simp only [decide_eq_true_eq] at *; exact List.le_trans h1 h2) (fun a b => by simp only [Bool.or_eq_true, decide_eq_true_eq]; exact List.le_total a b) (l.map toL)
  have hm : (l.map toL).Nodup := by
    rw [List.Nodup, List.pairwise_map]
    exact hn.imp (fun h e => h (toL_inj e))
  have hn2 : ((l.map toL).mergeSort fun x y => decide (x ≤ y)).Nodup := (List.mergeSort_perm _ _).nodup_iff.2 hm
  have hlt : ((l.map toL).mergeSort fun x y => decide (x ≤ y)).Pairwise (· < ·) := (List.pairwise_and_iff.2 ⟨hp, hn2⟩).imp (fun ⟨h1, h3⟩ => by
    simp only [decide_eq_true_eq] at h1
    exact (List.le_iff_lt_or_eq.1 h1).resolve_right h3)
  unfold sortS SortedS
  rw [List.pairwise_map]
  refine hlt.imp (fun h => ?_)
  rw [kless_toL, to_ofL, to_ofL]
  exact decide_eq_true h
/-! ### Since a unit's last quiet -/
theorem since_prefix (u : Int) (at_ : Int) : ∀ (l : List S43), sinceV l u = (at_, true) → ∀ j : Nat, at_ < j → j ≤ l.length → sinceV (l.take j) u = (at_, true) := by
  intro l
  generalize hN : l.length = N
  induction N generalizing l with
  | zero =>
    intro h j _ hj
    have : l = [] := List.eq_nil_of_length_eq_zero hN
    subst this
    rw [List.take_nil]; exact h
  | succ N ih =>
    intro h j hj1 hj2
    obtain ⟨p, n, rfl⟩ : ∃ p n, l = p ++ [n] := ⟨l.dropLast, l.getLast (by intro e; rw [e] at hN; cases hN), (List.dropLast_concat_getLast _).symm⟩
    have hp : p.length = N := by simpa using hN
    by_cases he : j = N + 1
    · rw [he, List.take_of_length_le (by simp [hp])]; exact h
    · have hlt : j ≤ p.length := by omega
      rw [List.take_append_of_le_length hlt]
      refine ih p hp ?_ j hj1 (by omega)
      rw [since_snoc] at h
      unfold sinceStep at h
      split at h
      · split at h
        · exact h
        · split at h
          · have := congrArg Prod.fst h; simp only at this; omega
          · split at h
            · have := congrArg Prod.snd h; cases this
            · exact h
      · exact h
theorem right_at : ∀ (s p : List S43), RightFrom p s → ∀ (j : Nat) (h : j < s.length), wrongR (p ++ s.take j) s[j] = 0
  | n :: s, p, hr, 0, h => by simpa using hr.1
  | n :: s, p, hr, j + 1, h => by
    have := right_at s (p ++ [n]) hr.2 j (by simpa using h)
    simpa using this
theorem vld_key {n : S43} (hv : vld n = true) (h23 : n.f0 = 2 ∨ n.f0 = 3) : n.f2.toList ≠ [] := by
  unfold vld journal_Valid.f at hv
  rw [if_neg (by omega), if_neg (by omega), if_pos h23] at hv
  unfold journal_imaged.f journal_unit.f at hv
  intro hk
  by_cases a1 : 1 ≤ n.f1 <;> by_cases a2 : n.f1 ≤ 1000 <;> simp [a1, a2, hk] at hv
theorem vld_kind {n : S43} (hv : vld n = true) (hk : n.f2.toList ≠ []) : n.f0 = 2 ∨ n.f0 = 3 := by
  by_cases h23 : n.f0 = 2 ∨ n.f0 = 3
  · exact h23
  · unfold vld journal_Valid.f at hv
    by_cases h1 : n.f0 < 1
    · rw [if_pos h1] at hv; cases hv
    rw [if_neg h1] at hv
    by_cases h7 : 7 < n.f0
    · rw [if_pos h7] at hv; cases hv
    rw [if_neg h7, if_neg h23] at hv
    by_cases h6 : n.f0 = 6
    · rw [if_pos h6] at hv
      unfold journal_named.f at hv
      by_cases a1 : n.f1 = 0 <;> simp [a1, hk] at hv
    · rw [if_neg h6] at hv
      unfold journal_plain.f journal_unit.f at hv
      by_cases a1 : 1 ≤ n.f1 <;> by_cases a2 : n.f1 ≤ 1000 <;> simp [a1, a2, hk] at hv
/-- The keys of a unit's notes since its last quiet are those of its befores. -/
theorem keys_same {l : List S43} {u : Int} {at_ : Nat} (hr : rightN l = 0) (hs : sinceV l u = ((at_ : Int), true)) (hlt : at_ < l.length) (K : ByteArray) :
    (∃ n ∈ l.drop (at_ + 1), n.f1 = u ∧ n.f2.toList ≠ [] ∧ n.f2 = K) ↔ ∃ n ∈ l.drop (at_ + 1), n.f1 = u ∧ n.f0 = 2 ∧ n.f2 = K := by
  obtain ⟨_, hv⟩ := right_cases l
  have hv := (hv (by omega)).2
  have hvm : ∀ n ∈ l, vld n = true := fun n hn => List.all_eq_true.1 hv n hn
  have hrf := (right_right hr).2
  constructor
  · rintro ⟨n, hn, h1, h2, h3⟩
    rcases vld_kind (hvm n (List.mem_of_mem_drop hn)) h2 with h4 | h4
    · exact ⟨n, hn, h1, h4, h3⟩
    · obtain ⟨j, hj, he⟩ := List.getElem_of_mem hn
      rw [List.length_drop] at hj
      rw [List.getElem_drop] at he
      have hw := right_at l [] hrf (at_ + 1 + j) (by omega)
      rw [List.nil_append, he] at hw
      have hp := since_prefix u at_ l hs (at_ + 1 + j) (by omega) (by omega)
      unfold wrongR at hw
      rw [if_neg (by omega), h1, hp, if_neg (fun h => by have h' : true = decide (n.f0 = 1) := h; rw [decide_eq_false (by omega)] at h'; cases h'), if_neg (fun h => h (.inr h4))] at hw
      have ht : touchedV (l.take (at_ + 1 + j)) u n.f2 2 = true := by
        cases hb : touchedV (l.take (at_ + 1 + j)) u n.f2 2 with
        | true => rfl
        | false => rw [if_pos ⟨h4, hb⟩] at hw; cases hw
      unfold touchedV at ht
      rw [hp] at ht
      simp only [Bool.true_and, Int.toNat_natCast] at ht
      obtain ⟨m, hm, hc⟩ := List.any_eq_true.1 ht
      have hc := of_decide_eq_true hc
      refine ⟨m, ?_, hc.1, ?_, by rw [hc.2.1, h3]⟩
      · rw [List.drop_take] at hm
        exact List.mem_of_mem_take hm
      · rcases hc.2.2.2 with h | h
        · cases h
        · exact h
  · rintro ⟨n, hn, h1, h2, h3⟩
    exact ⟨n, hn, h1, vld_key (hvm n (List.mem_of_mem_drop hn)) (.inl h2), h3⟩
theorem undo_len {l : List S43} {u : Int} {r : List S48 × Int} (h : journal_Undo.f l u = some r) : r.1.length ≤ l.length := by
  unfold journal_Undo.f at h
  obtain ⟨e, _, h⟩ := Option.bind_eq_some_iff.1 h
  split at h
  · cases h
    have : ∀ (s : List S43) (st : (ByteArray → Bool) × List S48), (s.foldl (undoStep u) st).2.length ≤ st.2.length + s.length := by
      intro s
      induction s with
      | nil => intro st; simp
      | cons n s ih =>
        intro st
        have := ih (undoStep u st n)
        have h2 : (undoStep u st n).2.length ≤ st.2.length + 1 := by unfold undoStep; split <;> simp
        simp only [List.foldl_cons, List.length_cons]; omega
    have := this (l.drop (askedV l u).1.toNat) (fun _ => false, [])
    simp only [List.length_reverse, List.length_drop, List.length_nil] at this ⊢
    unfold undoAll
    omega
  · cases h; simp
/-- The two programs' Keys are one. -/
theorem ref_Keys (l : List S43) (u : Int) (hl : l.length ≤ 100000) : ∃ r : List ByteArray × Int, journal_Keys.f l u = some r ∧ Ev (fun k => ringworkref25_Keys.f k l u) r ∧ r.1.length ≤ l.length := by
  obtain ⟨he, hv⟩ := right_cases l
  have hq := ref_QuietAt l u (by omega)
  unfold ringworkref25_Keys.f
  by_cases h0 : (askedV l u).2 = 0
  · have hr0 : rightN l = 0 := by
      rw [← right_eq]
      by_cases hz : rightV l = 0
      · exact hz
      · unfold askedV at h0; rw [if_neg hz] at h0; exact absurd h0 hz
    have hs : (sinceV l u).2 = true ∧ (askedV l u).1 = (sinceV l u).1 := by
      unfold askedV at h0 ⊢
      rw [right_eq] at h0 ⊢
      rw [if_pos hr0] at h0 ⊢
      by_cases hu : 1 ≤ u ∧ u ≤ 1000
      · rw [if_pos hu] at h0 ⊢
        cases hs : (sinceV l u).2
        · rw [hs] at h0; cases h0
        · exact ⟨rfl, rfl⟩
      · rw [if_neg hu] at h0; cases h0
    have hin := since_in hs.1
    obtain ⟨i, hi⟩ : ∃ i : Nat, (sinceV l u).1 = i := ⟨(sinceV l u).1.toNat, by omega⟩
    have hsv : sinceV l u = ((i : Int), true) := by rw [← hi, ← hs.1]
    have hlt : i < l.length := by omega
    have hkd : l[i].f0 = 1 ∨ l[i].f0 = 4 := by
      have := since_kind u l 0 (0, false) (fun z => ∀ (hz : z.toNat < l.length), l[z.toNat].f0 = 1 ∨ l[z.toNat].f0 = 4) (fun h => by cases h) (fun j hj hk hz => by simpa using hk) hs.1
      have h2 := this (by show (sinceV l u).1.toNat < _; rw [hi]; exact hlt)
      have e : (sinceFrom u l 0 (0, false)).1 = (i : Int) := hi
      simpa [e] using h2
    have hU : journal_Undo.f l u = some (((l.drop (i + 1)).foldl (undoStep u) (fun _ => false, [])).2.reverse, 0) := by
      unfold journal_Undo.f
      rw [he]
      simp only [Option.bind_some]
      rw [if_pos h0, hs.2, hi, Int.toNat_natCast, List.drop_eq_getElem_cons hlt]
      unfold undoAll
      rw [List.foldl_cons, show undoStep u (fun _ => false, []) l[i] = (fun _ => false, []) by unfold undoStep; rw [if_neg (fun hh => by omega)]]
    obtain ⟨f1, f2⟩ := undo_fold u (l.drop (i + 1)) (fun _ => false) [] (fun k => by simp) (by simp)
    obtain ⟨g1, g2⟩ := keys_fold u (l.drop (i + 1)) [] List.Pairwise.nil
    have hul := undo_len hU
    generalize hX : ((l.drop (i + 1)).foldl (undoStep u) (fun _ => false, [])).2 = X at f1 f2 hU hul
    have hsort : sortS (X.reverse.map (·.f0)) = (l.drop (i + 1)).foldl (keyStep u) [] := by
      have hnd : (X.reverse.map (·.f0)).Nodup := by rw [List.map_reverse]; unfold List.Nodup; rw [List.pairwise_reverse]; exact f1.imp (fun h e => h e.symm)
      refine sortedS_ext (sortS_sorted hnd) g1 (fun K => ?_)
      rw [sortS_mem, g2 K, List.map_reverse, List.mem_reverse, f2 K]
      have hks := keys_same hr0 hsv hlt K
      simp only [List.map_nil, List.not_mem_nil, false_or]
      exact hks.symm
    refine ⟨(sortS (X.reverse.map (·.f0)), 0), ?_, ?_, ?_⟩
    · unfold journal_Keys.f
      rw [hU]
      simp only [Option.bind_some]
      rw [if_pos (by simp only [List.length_reverse] at hul ⊢; omega)]
    · refine Ev.bind hq ?_
      simp only [if_pos h0]
      rw [if_pos (by rw [hs.2, hi]; omega), hs.2, hi, Int.toNat_natCast, hsort]
      exact Ev.val _
    · show (sortS (X.reverse.map (·.f0))).length ≤ _
      rw [sortS_length, List.length_map]; exact hul
  · refine ⟨([], (askedV l u).2), ?_, Ev.bind hq ?_, Nat.zero_le _⟩
    · unfold journal_Keys.f journal_Undo.f
      rw [he]
      simp only [Option.bind_some]
      rw [if_neg h0]
      simp only [Option.bind_some]
      rw [if_pos (by simp)]
      simp [sortS]
    · simp only [if_neg h0]; exact Ev.val _
end Go.Proofs.YteblpjnkinghoaaGreat.J
/- The contract of journal.units at the two questions that the program asks it. -/
namespace Go.Proofs.YteblpjnkinghoaaGreat.J
open Go.BigFrame Go.RowKit Go.Proofs.YteblpjnkinghoaaGreatW.PrintWords Go.Proofs.YteblpjnkinghoaaGreatW.PrintLast Go.Proofs.YteblpjnkinghoaaGreatW.PrintMore Go.Proofs.YteblpjnkinghoaaGreatW.Mw
theorem nodup_le : ∀ {a b : List Int}, a.Nodup → (∀ x ∈ a, x ∈ b) → a.length ≤ b.length
  | [], _, _, _ => Nat.zero_le _
  | x :: a, b, hn, h => by
    have hn' := List.nodup_cons.1 hn
    have hx := h x List.mem_cons_self
    have := nodup_le (b := b.erase x) hn'.2 (fun y hy => (List.mem_erase_of_ne (fun e => hn'.1 (by rw [← e]; exact hy))).2 (h y (List.mem_cons_of_mem _ hy)))
    rw [List.length_erase_of_mem hx] at this
    have := List.length_pos_of_mem hx
    simp only [List.length_cons]; omega
/-- The units that were met, each once. -/
def seenStep (p : Int → Bool) (s : List Int) (n : S43) : List Int := if n.f0 ≠ 6 ∧ p n.f1 = true ∧ n.f1 ∉ s then s ++ [n.f1] else s
def seenAll (p : Int → Bool) (l : List S43) : List Int := l.foldl (seenStep p) []
def unitsOf (p : Int → Bool) (l : List S43) : List Int := sortI (seenAll p l)
theorem seen_nodup (p : Int → Bool) : ∀ (l : List S43) (s : List Int), s.Nodup → (l.foldl (seenStep p) s).Nodup
  | [], _, h => h
  | n :: l, s, h => by
    refine seen_nodup p l _ ?_
    unfold seenStep
    split
    · rename_i hc
      rw [List.nodup_append]
      exact ⟨h, by simp, fun a ha b hb => by rw [List.mem_singleton.1 hb]; exact fun e => hc.2.2 (e ▸ ha)⟩
    · exact h
theorem seen_len (p : Int → Bool) : ∀ (l : List S43) (s : List Int), (l.foldl (seenStep p) s).length ≤ s.length + l.length
  | [], _ => Nat.le_refl _
  | n :: l, s => by
    have := seen_len p l (seenStep p s n)
    have h2 : (seenStep p s n).length ≤ s.length + 1 := by unfold seenStep; split <;> simp
    simp only [List.foldl_cons, List.length_cons]; omega
theorem seen_mem (p : Int → Bool) (u : Int) : ∀ (l : List S43) (s : List Int), u ∈ l.foldl (seenStep p) s ↔ u ∈ s ∨ (p u = true ∧ ∃ n ∈ l, n.f0 ≠ 6 ∧ n.f1 = u)
  | [], s => by simp
  | n :: l, s => by
    rw [List.foldl_cons, seen_mem p u l]
    have h1 : u ∈ seenStep p s n ↔ u ∈ s ∨ (p u = true ∧ n.f0 ≠ 6 ∧ n.f1 = u) := by
      unfold seenStep
      split
      · rename_i hc
        rw [List.mem_append, List.mem_singleton]
        constructor
        · rintro (h | rfl)
          · exact .inl h
          · exact .inr ⟨hc.2.1, hc.1, rfl⟩
        · rintro (h | ⟨_, _, rfl⟩)
          · exact .inl h
          · exact .inr rfl
      · rename_i hc
        constructor
        · exact .inl
        · rintro (h | ⟨h2, h3, rfl⟩)
          · exact h
          · by_cases hm : n.f1 ∈ s
            · exact hm
            · exact absurd ⟨h3, h2, hm⟩ hc
    rw [h1]
    constructor
    · rintro ((h | ⟨h2, h3, h4⟩) | ⟨h2, m, hm, h3⟩)
      · exact .inl h
      · exact .inr ⟨h2, n, List.mem_cons_self, h3, h4⟩
      · exact .inr ⟨h2, m, List.mem_cons_of_mem _ hm, h3⟩
    · rintro (h | ⟨h2, m, hm, h3⟩)
      · exact .inl (.inl h)
      · rcases List.mem_cons.1 hm with rfl | hm
        · exact .inl (.inr ⟨h2, h3⟩)
        · exact .inr ⟨h2, m, hm, h3⟩
theorem unitsOf_mem (p : Int → Bool) (l : List S43) (u : Int) : u ∈ unitsOf p l ↔ p u = true ∧ ∃ n ∈ l, n.f0 ≠ 6 ∧ n.f1 = u := by
  unfold unitsOf seenAll
  rw [sortI_mem, seen_mem]
  simp
theorem unitsOf_lt (p : Int → Bool) (l : List S43) : (unitsOf p l).Pairwise (· < ·) := sortI_lt (seen_nodup p l [] List.nodup_nil)
theorem unitsOf_len (p : Int → Bool) (l : List S43) : (unitsOf p l).length ≤ l.length := by
  unfold unitsOf seenAll
  rw [sortI_length]
  have := seen_len p l []
  simpa using this
/-- What the map of units holds. -/
def seenF (s : List Int) (u : Int) : Option Value := if u ∈ s then some (.bool true) else none
theorem seenF_put {s : List Int} {F : Int → Option Value} (hF : ∀ u, F u = seenF s u) (x u : Int) (s' : List Int) (hs : ∀ u, u ∈ s' ↔ u ∈ s ∨ u = x) : (if u = x then some (Value.bool true) else F u) = seenF s' u := by
  rw [hF]; unfold seenF
  by_cases hu : u = x
  · rw [if_pos hu, if_pos ((hs u).2 (.inr hu))]
  · rw [if_neg hu]
    by_cases hm : u ∈ s
    · rw [if_pos hm, if_pos ((hs u).2 (.inl hm))]
    · rw [if_neg hm, if_neg (fun h => ((hs u).1 h).elim hm hu)]
theorem seenStep_mem {p : Int → Bool} {s : List Int} {n : S43} (h6 : n.f0 ≠ 6) (hp : p n.f1 = true) (u : Int) : u ∈ seenStep p s n ↔ u ∈ s ∨ u = n.f1 := by
  unfold seenStep
  by_cases hm : n.f1 ∈ s
  · rw [if_neg (fun h => h.2.2 hm)]
    exact ⟨.inl, fun h => h.elim id (fun e => e ▸ hm)⟩
  · rw [if_pos ⟨h6, hp, hm⟩, List.mem_append, List.mem_singleton]
set_option maxHeartbeats 4000000 in
set_option maxRecDepth 100000 in
theorem units29_calls (pv : Value) (p : Int → Bool) (A0 : Option Addr) (c0 : Nat) (l0 : List S43) (w : World) (hr0 : Kd.C k43 w A0 l0.length l0) (hle : l0.length ≤ 1000)
    (hp : ∀ (W : World) (u : Int), Below w.heap.size w W → Calls Tryz.prog 29 #[.int .i64 u, pv] W fun e W' => e = .returned (.bool (p u)) ∧ Below W.heap.size W W') :
    Calls Tryz.prog 28 #[.slice A0 l0.length c0, .func (.func 29) #[] #[pv]] w fun e w' => ∃ v, e = .returned v ∧ Kd.R (Kd.int .i64) 3 w' w.heap.size (fun _ => True) v (unitsOf p l0) ∧ Below w.heap.size w w' := by
  have HR0 := Aside0.mk hr0
  have HP := Aside0.mk hp
  clear hr0 hp
  have hmm := @run_makeMap Tryz.prog
  go_enter Tryz.func28, Tryz.ntmps28
  go_wp2_with fail
  obtain ⟨b, hbe⟩ : ∃ b, b = w.heap.size := ⟨_, rfl⟩
  have hB2 := (Below.refl w.heap.size w).alloc (Nat.le_refl _) (.map #[] 0)
  have hH2 := Holds.made K3 w
  have hbb : w.heap.size ≤ b := by omega
  rw [← hbe] at hH2
  have HBB := Aside0.mk hbb
  have hbe' := Aside0.mk hbe
  clear hbb
  generalize w.alloc (.map #[] 0) = w2 at hB2 hH2 ⊢
  rw [← hbe]
  clear hbe
  have HB := Aside0.mk hB2
  have HH := Aside0.mk hH2
  clear hB2 hH2 hmm
  go_loopg [13] (l0.length + 1) (fun kq v13 w' => ∃ (i : Nat) (s : List Int) (F : Int → Option Value), v13 = .int .i64 i ∧ i ≤ l0.length ∧ Aside0 (kq + i = l0.length + 1) ∧ Aside0 ((l0.drop i).foldl (seenStep p) s = seenAll p l0) ∧ Aside0 (Holds K3 w' b F) ∧ Aside0 (∀ u, F u = seenF s u) ∧ Aside0 (Below w.heap.size w w'))
  case atStart => exact ⟨0, [], fun _ => none, rfl, by omega, ⟨by omega⟩, ⟨rfl⟩, HH, ⟨fun _ => rfl⟩, HB⟩
  case round =>
    clear HB HH
    obtain ⟨i, s, F, rfl, hi, HQ, HS, HH, HF, HB⟩ := hrel
    by_cases hlt : i < l0.length
    · obtain ⟨ad, rfl, h0, h1, h2, h3, h4⟩ := at_T43 (Kd.C_below HR0.out HB.out) (i : Int) (by omega) (by omega)
      rw [Int.toNat_natCast] at h0 h1 h2 h3 h4
      have HS2 := Aside0.mk (show (l0.drop (i + 1)).foldl (seenStep p) (seenStep p s (rd_T43 l0 (i : Int))) = seenAll p l0 by rw [← HS.out, drop_rd hlt]; rfl)
      generalize rd_T43 l0 (i : Int) = n at h0 h1 h2 h3 h4 HS2
      clear HS
      have hk := heap_alloc_new wr (.cells #[.int .i64 n.f0, .int .i64 n.f1, .string n.f2, .bool n.f3, .string n.f4] 43)
      have HB5 := Aside0.mk (HB.out.alloc (below_size HB.out) (.cells #[.int .i64 n.f0, .int .i64 n.f1, .string n.f2, .bool n.f3, .string n.f4] 43))
      have HH5 := Aside0.mk (HH.out.alloc (.cells #[.int .i64 n.f0, .int .i64 n.f1, .string n.f2, .bool n.f3, .string n.f4] 43))
      by_cases k6 : n.f0 = 6
      · have q6 : (n.f0 != 6) = false := by rw [k6]; rfl
        have HS3 := Aside0.mk (show (l0.drop (i + 1)).foldl (seenStep p) s = seenAll p l0 by rw [← HS2.out]; congr 1; unfold seenStep; rw [if_neg (fun h => h.1 k6)])
        clear k6 HS2 hk
        go_wp2
        go_roundg (gk - 1)
        case measure => have := HQ.out; omega
        case rel => exact ⟨i + 1, s, F, rfl, by omega, ⟨by have := HQ.out; omega⟩, HS3, HH5, HF, HB5⟩
      · have q6 : (n.f0 != 6) = true := bne_iff_ne.2 k6
        have HK6 := Aside0.mk k6
        clear k6
        cases hpv : p n.f1 with
        | false =>
          have HS3 := Aside0.mk (show (l0.drop (i + 1)).foldl (seenStep p) s = seenAll p l0 by rw [← HS2.out]; congr 1; unfold seenStep; rw [if_neg (fun h => by rw [hpv] at h; cases h.2.1)])
          have HC := Aside0.mk (HP.out _ n.f1 HB5.out)
          rw [hpv] at HC
          clear HS2 hk hpv
          go_wp2_with (go_at_call 29; refine HC.out.mono ?_; rintro r w6 ⟨rfl, hb6⟩)
          have HB6 := Aside0.mk (below_step HB5.out hb6)
          have HH6 := Aside0.mk (HH5.out.below hb6)
          go_roundg (gk - 1)
          case measure => have := HQ.out; omega
          case rel => exact ⟨i + 1, s, F, rfl, by omega, ⟨by have := HQ.out; omega⟩, HS3, HH6, HF, HB6⟩
        | true =>
          have HC := Aside0.mk (HP.out _ n.f1 HB5.out)
          have HM := Aside0.mk (fun u => seenStep_mem (s := s) HK6.out hpv u)
          rw [hpv] at HC
          clear hpv
          go_wp2_with (first | (go_at_call 29; generalize wr.alloc (.cells #[.int .i64 n.f0, .int .i64 n.f1, .string n.f2, .bool n.f3, .string n.f4] 43) = w5 at hk HB5 HH5 HC ⊢; refine HC.out.mono ?_; rintro r w6 ⟨rfl, hb6⟩; have HB6 := Aside0.mk (below_step HB5.out hb6); have HH6 := Aside0.mk (HH5.out.below hb6); have hk6 := (hb6.block _ (Array.getElem?_eq_some_iff.1 hk).1).trans hk; have hc1 := (blk_cell hk6 1).trans (show _ = some (Value.int .i64 n.f1) from rfl); clear hk6 hb6 hk) | (at_mapUpdate; refine wl_put (K := K3) rfl (.tmp 26) (.tmp 28) (.const (.bool true)) 71 rfl Tryz.underlying71 HH6.out n.f1 (.bool true) rfl rfl rfl ?_; intro w7 hH7 hg7; have HH7 := Aside0.mk hH7; have HB7 := Aside0.mk (HB6.out.grown hg7 (below_size HB6.out) (fun k e => by cases e; exact HBB.out)); clear hH7 hg7))
          go_roundg (gk - 1)
          case measure => have := HQ.out; omega
          case rel => exact ⟨i + 1, seenStep p s n, _, rfl, by omega, ⟨by have := HQ.out; omega⟩, HS2, HH7, ⟨fun u => seenF_put HF.out n.f1 u _ HM.out⟩, HB7⟩
    · have hke : i = l0.length := by omega
      subst hke
      have HS' := Aside0.mk (show s = seenAll p l0 by rw [← HS.out, List.drop_length]; rfl)
      clear HS HQ
      go_wp2_with (at_range; refine wl_range (K := K3) rfl (.tmp 30) 71 rfl Tryz.underlying71 HH.out rfl ?_; intro w6 cnt hR hbl)
      go_frame
      have HB6 := Aside0.mk (below_step HB.out (hbl _ (Nat.le_refl _)))
      have hrb : w.heap.size ≤ wr.heap.size := below_size HB.out
      have hlt6 := HH.out.lt
      clear hbl
      generalize wr.heap.size = r at *
      have HR := Aside0.mk hR
      have HRB := Aside0.mk hrb
      have HN := Aside0.mk (show (seenAll p l0).Nodup ∧ (seenAll p l0).length ≤ 1000 from ⟨seen_nodup p l0 [] List.nodup_nil, by have := seen_len p l0 []; unfold seenAll; simp at this; omega⟩)
      clear hR HB HH hrb
      go_loopg [8] (cnt + 1) (fun kq v8 w' => ∃ (left : Int → Bool) (cn : Nat) (out : List Int), Aside0 (kq = cn + 1) ∧ Aside0 (Ranging K3 w' r b F left cn) ∧ Aside0 (out.Nodup) ∧ Aside0 (∀ u, u ∈ out ↔ u ∈ s ∧ left u = false) ∧ Aside0 (Kd.R (Kd.int .i64) 3 w' w.heap.size (fun k => k ≠ b ∧ k ≠ r) v8 out) ∧ Aside0 (Below w.heap.size w w'))
      case atStart => exact ⟨_, cnt, [], ⟨rfl⟩, HR, ⟨List.nodup_nil⟩, ⟨fun u => ⟨fun h => (by cases h), fun h => by have h2 := h.2; rw [HF.out u] at h2; unfold seenF at h2; rw [if_pos h.1] at h2; cases h2⟩⟩, ⟨Kd.R_nil _ _ _ _ _⟩, HB6⟩
      case round =>
        clear HR HB6
        obtain ⟨left, cn, out, HQ2, HR, HND, HME, HO, HB6⟩ := hrel
        have HOL := Aside0.mk (show out.length ≤ 1000 from Nat.le_trans (nodup_le HND.out (fun x hx => ((HME.out x).1 hx).1)) (by rw [HS'.out]; exact HN.out.2))
        rcases HR.out.next 0 with ⟨hl, hrun⟩ | ⟨k0, v0, cn', w8, hcn, hlk, hFk, hrun, hent, hR8, hg8⟩
        · have hrun' : ∀ ty, (Instr.next (.pointer (some ⟨r, 0, none⟩)) false ty).run Tryz.prog wr = .ok (.tuple #[.bool false]) wr := fun _ => hrun
          clear hrun
          have HE := Aside0.mk (show sortI out = unitsOf p l0 from lt_ext (sortI_lt HND.out) (sortI_lt HN.out.1) (fun u => by rw [sortI_mem, show unitsOf p l0 = sortI (seenAll p l0) from rfl, sortI_mem, HME.out, HS'.out]; exact ⟨fun h => h.1, fun h => ⟨h, hl u⟩⟩))
          clear hl HR
          have HSC := Aside0.mk (sort_ints_calls _ _ _ _ _ HO.out (by have := HOL.out; omega))
          go_wp2_with (go_at_call 47; refine HSC.out.mono ?_; rintro e w9 ⟨rfl, ho9, hb9⟩)
          go_ret
          exact ⟨_, rfl, by rw [← HE.out]; exact Kd.R_mono ho9 (fun _ _ => trivial), HB6.out.trans hb9⟩
        · have hrun' : ∀ ty, (Instr.next (.pointer (some ⟨r, 0, none⟩)) false ty).run Tryz.prog wr = .ok (.tuple #[.bool true, .int .i64 k0, v0]) w8 := fun _ => hrun
          have hent' : (Instr.entry (.pointer (some ⟨r, 0, none⟩))).run Tryz.prog w8 = .ok (.tuple #[.int .i64 k0, v0]) w8 := hent
          have hks : k0 ∈ s := by rw [HF.out k0] at hFk; unfold seenF at hFk; split at hFk; assumption; cases hFk
          have hko : k0 ∉ out := fun h => by have := ((HME.out k0).1 h).2; rw [hlk] at this; cases this
          have HV8 := Aside0.mk (show ∀ k, u8.ownBlock = some k → k ≠ b ∧ k ≠ r from HO.out.1)
          have HO8 := Aside0.mk (Kd.R_grown HO.out hg8 (fun k hk e => hk.2 (Option.some.inj e)))
          have HB8 := Aside0.mk (HB6.out.grown hg8 (below_size HB6.out) (fun k e => by cases e; exact HRB.out))
          have HR8 := Aside0.mk hR8
          have hr8 := hR8.lt
          have hb8 := hR8.holds.lt
          have HND2 := Aside0.mk (show (out ++ [k0]).Nodup by rw [List.nodup_append]; exact ⟨HND.out, by simp, fun a ha c hc => by rw [List.mem_singleton.1 hc]; exact fun e => hko (e ▸ ha)⟩)
          have HME2 := Aside0.mk (show ∀ u, u ∈ out ++ [k0] ↔ u ∈ s ∧ (left u && !decide (u = k0)) = false from fun u => by
            rw [List.mem_append, List.mem_singleton, HME.out]
            by_cases hu : u = k0
            · subst hu; simp [hks]
            · simp [hu])
          clear hrun hent hFk hlk hR8 hg8 HO HB6 HR hks hko HND HME
          go_wp2_with (at_builtin; refine Kd.R_append (Kd.int .i64) (w0 := w) w.heap.size rfl (.tmp 36) (.tmp 38) 28 3 (.int .i64 0) 8 rfl Tryz.underlying28 info3 rfl (by decide) (by decide) u8 out k0 [.int .i64 k0] (fun k => k ≠ b ∧ k ≠ r) (fun _ => False) rfl rfl ?aP (fun _ hk => hk.elim) ?aF ?aO ?aB ?aS ?aL ?_; (case aP => exact rfl); (case aF => exact (fun k hk => ⟨by omega, by omega⟩)); (case aO => exact HO8.out); (case aB => exact HB8.out); (case aS => exact below_size HB8.out); (case aL => have := HOL.out; omega); intro v1 w9 ho hb9 hg9 _; have HO9 := Aside0.mk ho; have HB9 := Aside0.mk hb9; have HR9 := Aside0.mk (HR8.out.grown hg9 (fun e => (HV8.out b e.symm).1 rfl) (fun e => (HV8.out r e.symm).2 rfl)); clear ho hb9 hg9)
          go_roundg (cn' + 1)
          case measure => have := HQ2.out; omega
          case rel => exact ⟨_, cn', out ++ [k0], ⟨rfl⟩, HR9, HND2, HME2, HO9, HB9⟩
set_option maxHeartbeats 4000000 in
set_option maxRecDepth 100000 in
theorem units33_calls (pv : Value) (p : Int → Bool) (A0 : Option Addr) (c0 : Nat) (l0 : List S43) (w : World) (hr0 : Kd.C k43 w A0 l0.length l0) (hle : l0.length ≤ 1000)
    (hp : ∀ (W : World) (u : Int), Below w.heap.size w W → Calls Tryz.prog 33 #[.int .i64 u, pv] W fun e W' => e = .returned (.bool (p u)) ∧ Below W.heap.size W W') :
    Calls Tryz.prog 28 #[.slice A0 l0.length c0, .func (.func 33) #[] #[pv]] w fun e w' => ∃ v, e = .returned v ∧ Kd.R (Kd.int .i64) 3 w' w.heap.size (fun _ => True) v (unitsOf p l0) ∧ Below w.heap.size w w' := by
  have HR0 := Aside0.mk hr0
  have HP := Aside0.mk hp
  clear hr0 hp
  have hmm := @run_makeMap Tryz.prog
  go_enter Tryz.func28, Tryz.ntmps28
  go_wp2_with fail
  obtain ⟨b, hbe⟩ : ∃ b, b = w.heap.size := ⟨_, rfl⟩
  have hB2 := (Below.refl w.heap.size w).alloc (Nat.le_refl _) (.map #[] 0)
  have hH2 := Holds.made K3 w
  have hbb : w.heap.size ≤ b := by omega
  rw [← hbe] at hH2
  have HBB := Aside0.mk hbb
  have hbe' := Aside0.mk hbe
  clear hbb
  generalize w.alloc (.map #[] 0) = w2 at hB2 hH2 ⊢
  rw [← hbe]
  clear hbe
  have HB := Aside0.mk hB2
  have HH := Aside0.mk hH2
  clear hB2 hH2 hmm
  go_loopg [13] (l0.length + 1) (fun kq v13 w' => ∃ (i : Nat) (s : List Int) (F : Int → Option Value), v13 = .int .i64 i ∧ i ≤ l0.length ∧ Aside0 (kq + i = l0.length + 1) ∧ Aside0 ((l0.drop i).foldl (seenStep p) s = seenAll p l0) ∧ Aside0 (Holds K3 w' b F) ∧ Aside0 (∀ u, F u = seenF s u) ∧ Aside0 (Below w.heap.size w w'))
  case atStart => exact ⟨0, [], fun _ => none, rfl, by omega, ⟨by omega⟩, ⟨rfl⟩, HH, ⟨fun _ => rfl⟩, HB⟩
  case round =>
    clear HB HH
    obtain ⟨i, s, F, rfl, hi, HQ, HS, HH, HF, HB⟩ := hrel
    by_cases hlt : i < l0.length
    · obtain ⟨ad, rfl, h0, h1, h2, h3, h4⟩ := at_T43 (Kd.C_below HR0.out HB.out) (i : Int) (by omega) (by omega)
      rw [Int.toNat_natCast] at h0 h1 h2 h3 h4
      have HS2 := Aside0.mk (show (l0.drop (i + 1)).foldl (seenStep p) (seenStep p s (rd_T43 l0 (i : Int))) = seenAll p l0 by rw [← HS.out, drop_rd hlt]; rfl)
      generalize rd_T43 l0 (i : Int) = n at h0 h1 h2 h3 h4 HS2
      clear HS
      have hk := heap_alloc_new wr (.cells #[.int .i64 n.f0, .int .i64 n.f1, .string n.f2, .bool n.f3, .string n.f4] 43)
      have HB5 := Aside0.mk (HB.out.alloc (below_size HB.out) (.cells #[.int .i64 n.f0, .int .i64 n.f1, .string n.f2, .bool n.f3, .string n.f4] 43))
      have HH5 := Aside0.mk (HH.out.alloc (.cells #[.int .i64 n.f0, .int .i64 n.f1, .string n.f2, .bool n.f3, .string n.f4] 43))
      by_cases k6 : n.f0 = 6
      · have q6 : (n.f0 != 6) = false := by rw [k6]; rfl
        have HS3 := Aside0.mk (show (l0.drop (i + 1)).foldl (seenStep p) s = seenAll p l0 by rw [← HS2.out]; congr 1; unfold seenStep; rw [if_neg (fun h => h.1 k6)])
        clear k6 HS2 hk
        go_wp2
        go_roundg (gk - 1)
        case measure => have := HQ.out; omega
        case rel => exact ⟨i + 1, s, F, rfl, by omega, ⟨by have := HQ.out; omega⟩, HS3, HH5, HF, HB5⟩
      · have q6 : (n.f0 != 6) = true := bne_iff_ne.2 k6
        have HK6 := Aside0.mk k6
        clear k6
        cases hpv : p n.f1 with
        | false =>
          have HS3 := Aside0.mk (show (l0.drop (i + 1)).foldl (seenStep p) s = seenAll p l0 by rw [← HS2.out]; congr 1; unfold seenStep; rw [if_neg (fun h => by rw [hpv] at h; cases h.2.1)])
          have HC := Aside0.mk (HP.out _ n.f1 HB5.out)
          rw [hpv] at HC
          clear HS2 hk hpv
          go_wp2_with (go_at_call 33; refine HC.out.mono ?_; rintro r w6 ⟨rfl, hb6⟩)
          have HB6 := Aside0.mk (below_step HB5.out hb6)
          have HH6 := Aside0.mk (HH5.out.below hb6)
          go_roundg (gk - 1)
          case measure => have := HQ.out; omega
          case rel => exact ⟨i + 1, s, F, rfl, by omega, ⟨by have := HQ.out; omega⟩, HS3, HH6, HF, HB6⟩
        | true =>
          have HC := Aside0.mk (HP.out _ n.f1 HB5.out)
          have HM := Aside0.mk (fun u => seenStep_mem (s := s) HK6.out hpv u)
          rw [hpv] at HC
          clear hpv
          go_wp2_with (first | (go_at_call 33; generalize wr.alloc (.cells #[.int .i64 n.f0, .int .i64 n.f1, .string n.f2, .bool n.f3, .string n.f4] 43) = w5 at hk HB5 HH5 HC ⊢; refine HC.out.mono ?_; rintro r w6 ⟨rfl, hb6⟩; have HB6 := Aside0.mk (below_step HB5.out hb6); have HH6 := Aside0.mk (HH5.out.below hb6); have hk6 := (hb6.block _ (Array.getElem?_eq_some_iff.1 hk).1).trans hk; have hc1 := (blk_cell hk6 1).trans (show _ = some (Value.int .i64 n.f1) from rfl); clear hk6 hb6 hk) | (at_mapUpdate; refine wl_put (K := K3) rfl (.tmp 26) (.tmp 28) (.const (.bool true)) 71 rfl Tryz.underlying71 HH6.out n.f1 (.bool true) rfl rfl rfl ?_; intro w7 hH7 hg7; have HH7 := Aside0.mk hH7; have HB7 := Aside0.mk (HB6.out.grown hg7 (below_size HB6.out) (fun k e => by cases e; exact HBB.out)); clear hH7 hg7))
          go_roundg (gk - 1)
          case measure => have := HQ.out; omega
          case rel => exact ⟨i + 1, seenStep p s n, _, rfl, by omega, ⟨by have := HQ.out; omega⟩, HS2, HH7, ⟨fun u => seenF_put HF.out n.f1 u _ HM.out⟩, HB7⟩
    · have hke : i = l0.length := by omega
      subst hke
      have HS' := Aside0.mk (show s = seenAll p l0 by rw [← HS.out, List.drop_length]; rfl)
      clear HS HQ
      go_wp2_with (at_range; refine wl_range (K := K3) rfl (.tmp 30) 71 rfl Tryz.underlying71 HH.out rfl ?_; intro w6 cnt hR hbl)
      go_frame
      have HB6 := Aside0.mk (below_step HB.out (hbl _ (Nat.le_refl _)))
      have hrb : w.heap.size ≤ wr.heap.size := below_size HB.out
      have hlt6 := HH.out.lt
      clear hbl
      generalize wr.heap.size = r at *
      have HR := Aside0.mk hR
      have HRB := Aside0.mk hrb
      have HN := Aside0.mk (show (seenAll p l0).Nodup ∧ (seenAll p l0).length ≤ 1000 from ⟨seen_nodup p l0 [] List.nodup_nil, by have := seen_len p l0 []; unfold seenAll; simp at this; omega⟩)
      clear hR HB HH hrb
      go_loopg [8] (cnt + 1) (fun kq v8 w' => ∃ (left : Int → Bool) (cn : Nat) (out : List Int), Aside0 (kq = cn + 1) ∧ Aside0 (Ranging K3 w' r b F left cn) ∧ Aside0 (out.Nodup) ∧ Aside0 (∀ u, u ∈ out ↔ u ∈ s ∧ left u = false) ∧ Aside0 (Kd.R (Kd.int .i64) 3 w' w.heap.size (fun k => k ≠ b ∧ k ≠ r) v8 out) ∧ Aside0 (Below w.heap.size w w'))
      case atStart => exact ⟨_, cnt, [], ⟨rfl⟩, HR, ⟨List.nodup_nil⟩, ⟨fun u => ⟨fun h => (by cases h), fun h => by have h2 := h.2; rw [HF.out u] at h2; unfold seenF at h2; rw [if_pos h.1] at h2; cases h2⟩⟩, ⟨Kd.R_nil _ _ _ _ _⟩, HB6⟩
      case round =>
        clear HR HB6
        obtain ⟨left, cn, out, HQ2, HR, HND, HME, HO, HB6⟩ := hrel
        have HOL := Aside0.mk (show out.length ≤ 1000 from Nat.le_trans (nodup_le HND.out (fun x hx => ((HME.out x).1 hx).1)) (by rw [HS'.out]; exact HN.out.2))
        rcases HR.out.next 0 with ⟨hl, hrun⟩ | ⟨k0, v0, cn', w8, hcn, hlk, hFk, hrun, hent, hR8, hg8⟩
        · have hrun' : ∀ ty, (Instr.next (.pointer (some ⟨r, 0, none⟩)) false ty).run Tryz.prog wr = .ok (.tuple #[.bool false]) wr := fun _ => hrun
          clear hrun
          have HE := Aside0.mk (show sortI out = unitsOf p l0 from lt_ext (sortI_lt HND.out) (sortI_lt HN.out.1) (fun u => by rw [sortI_mem, show unitsOf p l0 = sortI (seenAll p l0) from rfl, sortI_mem, HME.out, HS'.out]; exact ⟨fun h => h.1, fun h => ⟨h, hl u⟩⟩))
          clear hl HR
          have HSC := Aside0.mk (sort_ints_calls _ _ _ _ _ HO.out (by have := HOL.out; omega))
          go_wp2_with (go_at_call 47; refine HSC.out.mono ?_; rintro e w9 ⟨rfl, ho9, hb9⟩)
          go_ret
          exact ⟨_, rfl, by rw [← HE.out]; exact Kd.R_mono ho9 (fun _ _ => trivial), HB6.out.trans hb9⟩
        · have hrun' : ∀ ty, (Instr.next (.pointer (some ⟨r, 0, none⟩)) false ty).run Tryz.prog wr = .ok (.tuple #[.bool true, .int .i64 k0, v0]) w8 := fun _ => hrun
          have hent' : (Instr.entry (.pointer (some ⟨r, 0, none⟩))).run Tryz.prog w8 = .ok (.tuple #[.int .i64 k0, v0]) w8 := hent
          have hks : k0 ∈ s := by rw [HF.out k0] at hFk; unfold seenF at hFk; split at hFk; assumption; cases hFk
          have hko : k0 ∉ out := fun h => by have := ((HME.out k0).1 h).2; rw [hlk] at this; cases this
          have HV8 := Aside0.mk (show ∀ k, u8.ownBlock = some k → k ≠ b ∧ k ≠ r from HO.out.1)
          have HO8 := Aside0.mk (Kd.R_grown HO.out hg8 (fun k hk e => hk.2 (Option.some.inj e)))
          have HB8 := Aside0.mk (HB6.out.grown hg8 (below_size HB6.out) (fun k e => by cases e; exact HRB.out))
          have HR8 := Aside0.mk hR8
          have hr8 := hR8.lt
          have hb8 := hR8.holds.lt
          have HND2 := Aside0.mk (show (out ++ [k0]).Nodup by rw [List.nodup_append]; exact ⟨HND.out, by simp, fun a ha c hc => by rw [List.mem_singleton.1 hc]; exact fun e => hko (e ▸ ha)⟩)
          have HME2 := Aside0.mk (show ∀ u, u ∈ out ++ [k0] ↔ u ∈ s ∧ (left u && !decide (u = k0)) = false from fun u => by
            rw [List.mem_append, List.mem_singleton, HME.out]
            by_cases hu : u = k0
            · subst hu; simp [hks]
            · simp [hu])
          clear hrun hent hFk hlk hR8 hg8 HO HB6 HR hks hko HND HME
          go_wp2_with (at_builtin; refine Kd.R_append (Kd.int .i64) (w0 := w) w.heap.size rfl (.tmp 36) (.tmp 38) 28 3 (.int .i64 0) 8 rfl Tryz.underlying28 info3 rfl (by decide) (by decide) u8 out k0 [.int .i64 k0] (fun k => k ≠ b ∧ k ≠ r) (fun _ => False) rfl rfl ?aP (fun _ hk => hk.elim) ?aF ?aO ?aB ?aS ?aL ?_; (case aP => exact rfl); (case aF => exact (fun k hk => ⟨by omega, by omega⟩)); (case aO => exact HO8.out); (case aB => exact HB8.out); (case aS => exact below_size HB8.out); (case aL => have := HOL.out; omega); intro v1 w9 ho hb9 hg9 _; have HO9 := Aside0.mk ho; have HB9 := Aside0.mk hb9; have HR9 := Aside0.mk (HR8.out.grown hg9 (fun e => (HV8.out b e.symm).1 rfl) (fun e => (HV8.out r e.symm).2 rfl)); clear ho hb9 hg9)
          go_roundg (cn' + 1)
          case measure => have := HQ2.out; omega
          case rel => exact ⟨_, cn', out ++ [k0], ⟨rfl⟩, HR9, HND2, HME2, HO9, HB9⟩
end Go.Proofs.YteblpjnkinghoaaGreat.J
/- The contract of journal.Open, for every slice of notes. -/
namespace Go.Proofs.YteblpjnkinghoaaGreat.J
open Go.BigFrame Go.RowKit Go.Proofs.YteblpjnkinghoaaGreatW.PrintWords Go.Proofs.YteblpjnkinghoaaGreatW.PrintLast Go.Proofs.YteblpjnkinghoaaGreatW.PrintMore
/-- Whether a unit goes on: the question that Open asks. -/
theorem open1_calls (B : Nat) (A0 : Option Addr) (c0 : Nat) (l0 : List S43) (u : Int) (W : World) (hc : W.cell? ⟨B, 0, none⟩ = some (.slice A0 l0.length c0)) (hr : Kd.C k43 W A0 l0.length l0) (hc0 : l0.length ≤ c0) :
    Calls Tryz.prog 29 #[.int .i64 u, .pointer (some ⟨B, 0, none⟩)] W fun e W' => e = .returned (.bool (sinceV l0 u).2) ∧ Below W.heap.size W W' := by
  have HR := Aside0.mk hr
  have HC := Aside0.mk hc0
  have HS := Aside0.mk (since_all l0 u (Kd.C_max hr))
  clear hr hc0
  go_enter Tryz.func29, Tryz.ntmps29
  go_wp2_with (go_at_call 30; refine (journal_since.calls _ _ _ _ _ _ _ _ HR.out HC.out HS.out).mono ?_; rintro e w1 ⟨rfl, hb⟩)
  go_ret
  exact ⟨rfl, hb⟩
theorem cell_one (w : World) (v : Value) (t : TypeId) : (w.alloc (.cells #[v] t)).cell? ⟨w.heap.size, 0, none⟩ = some v := (blk_cell (heap_alloc_new w (.cells #[v] t)) 0).trans rfl
/-- What Open answers. -/
def journal_Open.f (l0 : List (S43)) : Option (List Int × Int) :=
  (journal_right.f l0).bind fun e => if e = 0 then some (unitsOf (fun u => (sinceV l0 u).2) l0, 0) else some ([], e)
theorem open_yes (A0 : Option Addr) (c0 : Nat) (l0 : List (S43)) (w : World) (hr0 : Kd.C k43 w A0 l0.length l0) (hc0 : l0.length ≤ c0) (he : journal_right.f l0 = some 0) (hle : l0.length ≤ 1000) :
    Calls Tryz.prog 8 #[.slice A0 l0.length c0] w fun e w' => ∃ v0_ : Value, e = .returned (.tuple #[v0_, .int .i64 0]) ∧ Kd.R (Kd.int .i64) 3 w' w.heap.size (fun _ => True) v0_ (unitsOf (fun u => (sinceV l0 u).2) l0) ∧ Below w.heap.size w w' := by
  have HR0 := Aside0.mk hr0
  have HC0 := Aside0.mk hc0
  have HE := Aside0.mk he
  have hcell := cell_one w (.slice A0 l0.length c0) 22
  have HB := Aside0.mk ((Below.refl w.heap.size w).alloc (Nat.le_refl _) (.cells #[.slice A0 l0.length c0] 22))
  have hz : w.heap.size < (w.alloc (.cells #[.slice A0 l0.length c0] 22)).heap.size := by simp
  obtain ⟨b, hb0⟩ : ∃ b, b = w.heap.size := ⟨_, rfl⟩
  have HBE := Aside0.mk hb0
  clear hr0 hc0 he
  go_enter Tryz.func8, Tryz.ntmps8
  go_wp2_with fail
  generalize w.alloc (.cells #[.slice A0 l0.length c0] 22) = w1 at hcell HB hz ⊢
  rw [← hb0] at hcell hz ⊢
  clear hb0
  have HCE := Aside0.mk hcell
  have HZ := Aside0.mk hz
  clear hz
  go_wp2_with (first | (go_at_call 27; refine (journal_right.calls _ _ _ _ _ (Kd.C_below HR0.out HB.out) HC0.out HE.out).mono ?_; rintro r w2 ⟨rfl, hb2⟩; have HB2 := Aside0.mk (below_step HB.out hb2); have hcell2 := pw_cell_below hb2 HCE.out; have HCE2 := Aside0.mk hcell2; have HZ2 := Aside0.mk (show b < w2.heap.size by have := HZ.out; have := hb2.size; omega); clear hb2) | (go_at_call 28; refine (units29_calls (.pointer (some ⟨b, 0, none⟩)) (fun u => (sinceV l0 u).2) A0 c0 l0 _ (Kd.C_below HR0.out HB2.out) hle (fun W u hW => open1_calls b A0 c0 l0 u W (pw_cell_below hW HCE2.out) (Kd.C_below HR0.out (below_step HB2.out hW)) HC0.out)).mono ?_; rintro r w3 ⟨v, rfl, ho, hb3⟩))
  go_ret2
  exact ⟨_, rfl, by rw [← HBE.out]; exact Kd.R_lower ho (by have := HZ2.out; omega), below_step HB2.out hb3⟩
theorem open_no (e : Int) (A0 : Option Addr) (c0 : Nat) (l0 : List (S43)) (w : World) (hr0 : Kd.C k43 w A0 l0.length l0) (hc0 : l0.length ≤ c0) (he : journal_right.f l0 = some e) (h : e ≠ 0) :
    Calls Tryz.prog 8 #[.slice A0 l0.length c0] w fun r w' => r = .returned (.tuple #[.slice none 0 0, .int .i64 e]) ∧ Below w.heap.size w w' := by
  have HR0 := Aside0.mk hr0
  have HC0 := Aside0.mk hc0
  have HE := Aside0.mk he
  have hcell := cell_one w (.slice A0 l0.length c0) 22
  have HB := Aside0.mk ((Below.refl w.heap.size w).alloc (Nat.le_refl _) (.cells #[.slice A0 l0.length c0] 22))
  have h1 : (e != 0) = true := bne_iff_ne.2 h
  clear hr0 hc0 he h
  go_enter Tryz.func8, Tryz.ntmps8
  go_wp2_with (go_at_call 27; refine (journal_right.calls _ _ _ _ _ (Kd.C_below HR0.out HB.out) HC0.out HE.out).mono ?_; rintro r w2 ⟨rfl, hb2⟩)
  go_ret2
  exact ⟨rfl, below_step HB.out hb2⟩
theorem journal_Open.calls (A0 : Option Addr) (c0 : Nat) (l0 : List (S43)) (r1 : List Int) (r2 : Int) (w : World) (hr0 : Kd.C k43 w A0 l0.length l0) (hc0 : l0.length ≤ c0) (h : journal_Open.f l0 = some (r1, r2)) :
    Calls Tryz.prog 8 #[.slice A0 l0.length c0] w fun e w' => ∃ v0_ : Value, e = .returned (.tuple #[v0_, .int .i64 r2]) ∧ Kd.R (Kd.int .i64) 3 w' w.heap.size (fun _ => True) v0_ r1 ∧ Below w.heap.size w w' := by
  obtain ⟨he, hle⟩ := right_cases l0
  unfold journal_Open.f at h
  rw [he, Option.bind_some] at h
  by_cases h0 : rightN l0 = 0
  · rw [if_pos h0] at h
    obtain ⟨rfl, rfl⟩ := Prod.mk.inj (Option.some.inj h)
    exact open_yes A0 c0 l0 w hr0 hc0 (he.trans (congrArg some h0)) (hle (by omega)).1
  · rw [if_neg h0] at h
    obtain ⟨rfl, rfl⟩ := Prod.mk.inj (Option.some.inj h)
    exact (open_no _ A0 c0 l0 w hr0 hc0 he h0).mono fun e w' ⟨h1, h2⟩ => ⟨_, h1, Kd.R_nil _ _ _ _ _, h2⟩
end Go.Proofs.YteblpjnkinghoaaGreat.J
/- The contract of journal.Ended, for every slice of notes. -/
namespace Go.Proofs.YteblpjnkinghoaaGreat.J
open Go.BigFrame Go.RowKit Go.Proofs.YteblpjnkinghoaaGreatW.PrintWords Go.Proofs.YteblpjnkinghoaaGreatW.PrintLast Go.Proofs.YteblpjnkinghoaaGreatW.PrintMore
/-- Whether a note ends a unit. -/
def endB (u : Int) (n : S43) : Bool := decide (n.f1 = u ∧ n.f0 = 5)
theorem ended11_calls (n : S43) (u : Int) (B : Nat) (W : World) (hc : W.cell? ⟨B, 0, none⟩ = some (.int .i64 u)) :
    Calls Tryz.prog 35 #[.agg #[.int .i64 n.f0, .int .i64 n.f1, .string n.f2, .bool n.f3, .string n.f4], .pointer (some ⟨B, 0, none⟩)] W fun e W' => e = .returned (.bool (endB u n)) ∧ Below W.heap.size W W' := by
  have hB := (Below.refl W.heap.size W).alloc (Nat.le_refl _) (.cells #[.int .i64 n.f0, .int .i64 n.f1, .string n.f2, .bool n.f3, .string n.f4] 43)
  have hc2 := pw_cell_below hB hc
  have HB := Aside0.mk hB
  clear hB hc
  by_cases k1 : n.f1 = u
  · have q1 : (n.f1 == u) = true := beq_iff_eq.2 k1
    by_cases k5 : n.f0 = 5
    · have q5 : (n.f0 == 5) = true := beq_iff_eq.2 k5
      have HE := Aside0.mk (show endB u n = true from decide_eq_true ⟨k1, k5⟩)
      clear k1 k5
      go_enter Tryz.func35, Tryz.ntmps35
      go_wp2
      go_ret
      exact ⟨by rw [HE.out]; rfl, HB.out⟩
    · have q5 : (n.f0 == 5) = false := beq_eq_false_iff_ne.2 k5
      have HE := Aside0.mk (show endB u n = false from decide_eq_false (fun h => k5 h.2))
      clear k1 k5
      go_enter Tryz.func35, Tryz.ntmps35
      go_wp2
      go_ret
      exact ⟨by rw [HE.out]; rfl, HB.out⟩
  · have q1 : (n.f1 == u) = false := beq_eq_false_iff_ne.2 k1
    have HE := Aside0.mk (show endB u n = false from decide_eq_false (fun h => k1 h.1))
    clear k1
    go_enter Tryz.func35, Tryz.ntmps35
    go_wp2
    go_ret
    exact ⟨by rw [HE.out]; rfl, HB.out⟩
theorem index35_calls (u : Int) (B : Nat) (A0 : Option Addr) (c0 : Nat) (l0 : List S43) (w : World) (hr0 : Kd.C k43 w A0 l0.length l0) (hcu : w.cell? ⟨B, 0, none⟩ = some (.int .i64 u)) :
    Calls Tryz.prog 48 #[.slice A0 l0.length c0, .func (.func 35) #[] #[.pointer (some ⟨B, 0, none⟩)]] w fun e w' => e = .returned (.int .i64 (idx (endB u) l0 0)) ∧ Below w.heap.size w w' := by
  have HR0 := Aside0.mk hr0
  have HCU := Aside0.mk hcu
  have hlm : l0.length ≤ 9223372036854775807 := Kd.C_max hr0
  clear hr0 hcu
  go_enter Tryz.func48, Tryz.ntmps48
  go_wp2
  go_loopg [8] (l0.length + 1) (fun kq v8 w' => ∃ k : Nat, k ≤ l0.length ∧ v8 = .int .i64 k ∧ Aside0 (kq + k = l0.length + 1) ∧ Aside0 (idx (endB u) l0 0 = idx (endB u) (l0.drop k) k) ∧ Aside0 (Below w.heap.size w w'))
  case atStart => exact ⟨0, Nat.zero_le _, rfl, ⟨by omega⟩, ⟨by simp⟩, ⟨Below.refl _ _⟩⟩
  case round =>
    obtain ⟨k, hk, rfl, HQ, HX, HB⟩ := hrel
    by_cases hlt : k < l0.length
    · obtain ⟨ad, rfl, h0, h1, h2, h3, h4⟩ := at_T43 (Kd.C_below HR0.out HB.out) (k : Int) (by omega) (by omega)
      rw [Int.toNat_natCast] at h0 h1 h2 h3 h4
      have hd := drop_rd hlt
      generalize rd_T43 l0 (k : Int) = n at h0 h1 h2 h3 h4 hd
      have HX' := Aside0.mk (HX.out.trans (congrArg (fun l => idx (endB u) l k) hd))
      clear hd HX
      have HC := Aside0.mk (fun (W : World) (hW : Below w.heap.size w W) => ended11_calls n u B W (pw_cell_below hW HCU.out))
      cases hv : endB u n
      · rw [hv] at HC
        have HY := Aside0.mk (HX'.out.trans (show idx (endB u) (n :: l0.drop (k + 1)) k = idx (endB u) (l0.drop (k + 1)) (k + 1) by rw [idx]; rw [hv]; rfl))
        clear hv HX'
        go_wp2_with (go_at_call 35; refine (HC.out _ HB.out).mono ?_; rintro e w1 ⟨rfl, hb⟩)
        go_roundg (gk - 1)
        case measure => have := HQ.out; omega
        case rel => exact ⟨k + 1, by omega, by go_num, ⟨by have := HQ.out; omega⟩, ⟨by rw [HY.out]; rfl⟩, ⟨below_step HB.out hb⟩⟩
      · rw [hv] at HC
        have HY := Aside0.mk (HX'.out.trans (show idx (endB u) (n :: l0.drop (k + 1)) k = k by unfold idx; rw [hv]; rfl))
        clear hv HX'
        go_wp2_with (go_at_call 35; refine (HC.out _ HB.out).mono ?_; rintro e w1 ⟨rfl, hb⟩)
        go_ret
        exact ⟨by rw [HY.out]; rfl, below_step HB.out hb⟩
    · have hke : k = l0.length := by omega
      subst hke
      have HY := Aside0.mk (HX.out.trans (show idx (endB u) (l0.drop l0.length) l0.length = -1 by rw [List.drop_length]; rfl))
      clear HX
      go_wp2
      go_ret
      exact ⟨by rw [HY.out]; rfl, HB.out⟩
theorem contains35_calls (u : Int) (B : Nat) (A0 : Option Addr) (c0 : Nat) (l0 : List S43) (w : World) (hr0 : Kd.C k43 w A0 l0.length l0) (hcu : w.cell? ⟨B, 0, none⟩ = some (.int .i64 u)) :
    Calls Tryz.prog 34 #[.slice A0 l0.length c0, .func (.func 35) #[] #[.pointer (some ⟨B, 0, none⟩)]] w fun e w' => e = .returned (.bool (l0.any (endB u))) ∧ Below w.heap.size w w' := by
  have HR0 := Aside0.mk hr0
  have HCU := Aside0.mk hcu
  clear hr0 hcu
  have HI := Aside0.mk (idx_any (endB u) l0 0 (by omega))
  go_enter Tryz.func34, Tryz.ntmps34
  go_wp2_with (go_at_call 48; refine (index35_calls _ _ _ _ _ _ HR0.out HCU.out).mono ?_; rintro e w1 ⟨rfl, hb⟩)
  go_ret
  exact ⟨by rw [← HI.out]; rfl, hb⟩
/-- Whether a unit has ended: the question that Ended asks. -/
theorem ended1_calls (B : Nat) (A0 : Option Addr) (c0 : Nat) (l0 : List S43) (u : Int) (W : World) (hc : W.cell? ⟨B, 0, none⟩ = some (.slice A0 l0.length c0)) (hr : Kd.C k43 W A0 l0.length l0) :
    Calls Tryz.prog 33 #[.int .i64 u, .pointer (some ⟨B, 0, none⟩)] W fun e W' => e = .returned (.bool (l0.any (endB u))) ∧ Below W.heap.size W W' := by
  have hB := (Below.refl W.heap.size W).alloc (Nat.le_refl _) (.cells #[.int .i64 u] 3)
  have hcu := cell_one W (.int .i64 u) 3
  have HR := Aside0.mk (Kd.C_below hr hB)
  have hc2 := pw_cell_below hB hc
  have HB := Aside0.mk hB
  clear hr hc hB
  obtain ⟨b, hb0⟩ : ∃ b, b = W.heap.size := ⟨_, rfl⟩
  rw [← hb0] at hcu
  go_enter Tryz.func33, Tryz.ntmps33
  go_wp2_with fail
  generalize W.alloc (.cells #[.int .i64 u] 3) = w1 at HB HR hc2 hcu ⊢
  rw [← hb0]
  clear hb0
  have HCU := Aside0.mk hcu
  clear hcu
  go_wp2_with (go_at_call 34; refine (contains35_calls u b _ _ _ _ HR.out HCU.out).mono ?_; rintro e w2 ⟨rfl, hb⟩)
  go_ret
  exact ⟨rfl, below_step HB.out hb⟩
/-- What Ended answers. -/
def journal_Ended.f (l0 : List (S43)) : Option (List Int × Int) :=
  (journal_right.f l0).bind fun e => if e = 0 then some (unitsOf (fun u => l0.any (endB u)) l0, 0) else some ([], e)
theorem ended_yes (A0 : Option Addr) (c0 : Nat) (l0 : List (S43)) (w : World) (hr0 : Kd.C k43 w A0 l0.length l0) (hc0 : l0.length ≤ c0) (he : journal_right.f l0 = some 0) (hle : l0.length ≤ 1000) :
    Calls Tryz.prog 11 #[.slice A0 l0.length c0] w fun e w' => ∃ v0_ : Value, e = .returned (.tuple #[v0_, .int .i64 0]) ∧ Kd.R (Kd.int .i64) 3 w' w.heap.size (fun _ => True) v0_ (unitsOf (fun u => l0.any (endB u)) l0) ∧ Below w.heap.size w w' := by
  have HR0 := Aside0.mk hr0
  have HC0 := Aside0.mk hc0
  have HE := Aside0.mk he
  have hcell := cell_one w (.slice A0 l0.length c0) 22
  have HB := Aside0.mk ((Below.refl w.heap.size w).alloc (Nat.le_refl _) (.cells #[.slice A0 l0.length c0] 22))
  have hz : w.heap.size < (w.alloc (.cells #[.slice A0 l0.length c0] 22)).heap.size := by simp
  obtain ⟨b, hb0⟩ : ∃ b, b = w.heap.size := ⟨_, rfl⟩
  have HBE := Aside0.mk hb0
  clear hr0 hc0 he
  go_enter Tryz.func11, Tryz.ntmps11
  go_wp2_with fail
  generalize w.alloc (.cells #[.slice A0 l0.length c0] 22) = w1 at hcell HB hz ⊢
  rw [← hb0] at hcell hz ⊢
  clear hb0
  have HCE := Aside0.mk hcell
  have HZ := Aside0.mk hz
  clear hz
  go_wp2_with (first | (go_at_call 27; refine (journal_right.calls _ _ _ _ _ (Kd.C_below HR0.out HB.out) HC0.out HE.out).mono ?_; rintro r w2 ⟨rfl, hb2⟩; have HB2 := Aside0.mk (below_step HB.out hb2); have hcell2 := pw_cell_below hb2 HCE.out; have HCE2 := Aside0.mk hcell2; have HZ2 := Aside0.mk (show b < w2.heap.size by have := HZ.out; have := hb2.size; omega); clear hb2) | (go_at_call 28; refine (units33_calls (.pointer (some ⟨b, 0, none⟩)) (fun u => l0.any (endB u)) A0 c0 l0 _ (Kd.C_below HR0.out HB2.out) hle (fun W u hW => ended1_calls b A0 c0 l0 u W (pw_cell_below hW HCE2.out) (Kd.C_below HR0.out (below_step HB2.out hW)))).mono ?_; rintro r w3 ⟨v, rfl, ho, hb3⟩))
  go_ret2
  exact ⟨_, rfl, by rw [← HBE.out]; exact Kd.R_lower ho (by have := HZ2.out; omega), below_step HB2.out hb3⟩
theorem ended_no (e : Int) (A0 : Option Addr) (c0 : Nat) (l0 : List (S43)) (w : World) (hr0 : Kd.C k43 w A0 l0.length l0) (hc0 : l0.length ≤ c0) (he : journal_right.f l0 = some e) (h : e ≠ 0) :
    Calls Tryz.prog 11 #[.slice A0 l0.length c0] w fun r w' => r = .returned (.tuple #[.slice none 0 0, .int .i64 e]) ∧ Below w.heap.size w w' := by
  have HR0 := Aside0.mk hr0
  have HC0 := Aside0.mk hc0
  have HE := Aside0.mk he
  have hcell := cell_one w (.slice A0 l0.length c0) 22
  have HB := Aside0.mk ((Below.refl w.heap.size w).alloc (Nat.le_refl _) (.cells #[.slice A0 l0.length c0] 22))
  have h1 : (e != 0) = true := bne_iff_ne.2 h
  clear hr0 hc0 he h
  go_enter Tryz.func11, Tryz.ntmps11
  go_wp2_with (go_at_call 27; refine (journal_right.calls _ _ _ _ _ (Kd.C_below HR0.out HB.out) HC0.out HE.out).mono ?_; rintro r w2 ⟨rfl, hb2⟩)
  go_ret2
  exact ⟨rfl, below_step HB.out hb2⟩
theorem journal_Ended.calls (A0 : Option Addr) (c0 : Nat) (l0 : List (S43)) (r1 : List Int) (r2 : Int) (w : World) (hr0 : Kd.C k43 w A0 l0.length l0) (hc0 : l0.length ≤ c0) (h : journal_Ended.f l0 = some (r1, r2)) :
    Calls Tryz.prog 11 #[.slice A0 l0.length c0] w fun e w' => ∃ v0_ : Value, e = .returned (.tuple #[v0_, .int .i64 r2]) ∧ Kd.R (Kd.int .i64) 3 w' w.heap.size (fun _ => True) v0_ r1 ∧ Below w.heap.size w w' := by
  obtain ⟨he, hle⟩ := right_cases l0
  unfold journal_Ended.f at h
  rw [he, Option.bind_some] at h
  by_cases h0 : rightN l0 = 0
  · rw [if_pos h0] at h
    obtain ⟨rfl, rfl⟩ := Prod.mk.inj (Option.some.inj h)
    exact ended_yes A0 c0 l0 w hr0 hc0 (he.trans (congrArg some h0)) (hle (by omega)).1
  · rw [if_neg h0] at h
    obtain ⟨rfl, rfl⟩ := Prod.mk.inj (Option.some.inj h)
    exact (ended_no _ A0 c0 l0 w hr0 hc0 he h0).mono fun e w' ⟨h1, h2⟩ => ⟨_, h1, Kd.R_nil _ _ _ _ _, h2⟩
end Go.Proofs.YteblpjnkinghoaaGreat.J
/- The contract of journal.Cut, for every slice of notes and every number. -/
namespace Go.Proofs.YteblpjnkinghoaaGreat.J
open Go.BigFrame Go.RowKit Go.Proofs.YteblpjnkinghoaaGreatW.PrintWords Go.Proofs.YteblpjnkinghoaaGreatW.PrintLast Go.Proofs.YteblpjnkinghoaaGreatW.PrintMore
theorem k43_KM {w : World} (w' : World) (base : Nat) (ok : Nat → Prop) (x : S43) (cs : List Value) (h : k43.K w x cs) : k43.M w' base ok x cs := by
  rw [k43_open h]; exact k43_mkM _ _ _ x
theorem R_lit43 (W : World) (base : Nat) (ok : Nat → Prop) (hb : base ≤ W.heap.size) (hk : ok W.heap.size) : Kd.R k43 43 (W.alloc (.cells #[] 43)) base ok (.slice (some ⟨W.heap.size, 0, none⟩) 0 0) [] :=
  ⟨fun k h => by cases h; exact hk, [], World.ownsRow_lit (base := base) (e := 43) (size := 5) W #[] 0 hb (by decide) rfl, Reps.none _ _⟩
set_option maxRecDepth 100000 in
/-- slices.Clone of notes. -/
theorem clone43_calls (A0 : Option Addr) (c0 : Nat) (l0 : List S43) (w : World) (hr0 : Kd.C k43 w A0 l0.length l0) (hl : l0.length ≤ 1000000) :
    Calls Tryz.prog 39 #[.slice A0 l0.length c0] w fun e w' => ∃ v : Value, e = .returned v ∧ Kd.R k43 43 w' w.heap.size (fun _ => True) v l0 ∧ Below w.heap.size w w' := by
  have q22 : ∀ (w : World) (a : Option Addr) (n c n' c' : Nat), (binOp .eql 22 (.slice a n c) (.slice none n' c')).run Tryz.prog w = .ok (.bool a.isNone) w := fun w a n c n' c' => Lib.run_eql_slice_nil w _ _ a n c n' c' Tryz.underlying22
  cases A0 with
  | none =>
    have h0 : l0 = [] := by
      cases l0 with
      | nil => rfl
      | cons x l => obtain ⟨ad, h, _⟩ := hr0.2.2 (by simp); cases h
    subst h0
    clear hr0
    go_enter Tryz.func39, Tryz.ntmps39
    go_wp2
    go_ret
    exact ⟨_, rfl, Kd.R_nil _ _ _ _ _, Below.refl _ _⟩
  | some ad =>
    have HR0 := Aside0.mk hr0
    clear hr0
    go_enter Tryz.func39, Tryz.ntmps39
    go_wp2_with (first | (at_builtin; refine Kd.R_append_rows k43 (Rr := k43.K w) (w0 := w) w.heap.size rfl (.tmp 5) (.tmp 6) 22 43 (.agg #[(.int .i64 0), (.int .i64 0), (.string ⟨#[]⟩), (.bool false), (.string ⟨#[]⟩)]) 56 rfl Tryz.underlying22 info43 rfl (by decide) (by decide) _ [] l0 (some ad) l0.length c0 (fun _ => True) (fun _ => False) rfl rfl ?aO ?aR ?aK (fun _ hk => hk.elim) (fun _ _ => trivial) ?aB ?aS ?aL ?_; (case aO => exact R_lit43 w w.heap.size _ (Nat.le_refl _) trivial); (case aR => exact ReadsRow.imp_ HR0.out ((Below.refl _ _).alloc (Nat.le_refl _) _) (fun _ _ hp => hp)); (case aK => exact fun x cs hx => k43_KM _ _ _ x cs hx); (case aB => exact (Below.refl _ _).alloc (Nat.le_refl _) _); (case aS => simp); (case aL => simp; omega); intro v1 w1 ho hb _ _; rw [List.nil_append] at ho))
    go_ret
    exact ⟨_, rfl, ho, hb⟩
/-- What Cut answers. -/
def journal_Cut.f (l0 : List (S43)) (a1 : Int) : Option ((List (S43)) × Int) :=
  if l0.length ≤ 1000 ∧ l0.all vld = true then (if a1 < 0 ∨ (l0.length : Int) < a1 then some ([], 7) else some (l0.take a1.toNat, 0)) else some ([], 1)
theorem journal_Cut.calls (A0 : Option Addr) (c0 : Nat) (l0 : List (S43)) (a1 : Int) (r1 : List (S43)) (r2 : Int) (w : World) (hr0 : Kd.C k43 w A0 l0.length l0) (hc0 : l0.length ≤ c0) (h : journal_Cut.f l0 a1 = some (r1, r2)) :
    Calls Tryz.prog 20 #[.slice A0 l0.length c0, .int .i64 a1] w fun e w' => ∃ v0_ : Value, e = .returned (.tuple #[v0_, .int .i64 r2]) ∧ Kd.R k43 43 w' w.heap.size (fun _ => True) v0_ r1 ∧ Below w.heap.size w w' := by
  have HR0 := Aside0.mk hr0
  have HC0 := Aside0.mk hc0
  have hnot : ∀ (x : Bool) (w : World), (Op.unary .not (.bool x)).run Tryz.prog w = .ok (.bool (!x)) w := fun _ _ => rfl
  unfold journal_Cut.f at h
  by_cases hv : l0.length ≤ 1000 ∧ l0.all vld = true
  · rw [if_pos hv] at h
    have HV := Aside0.mk (show journal_valid.f l0 = some true by unfold journal_valid.f; rw [decide_eq_true hv.1, hv.2]; rfl)
    have hle := hv.1
    clear hr0 hc0 hv
    by_cases h1 : a1 < 0
    · rw [if_pos (.inl h1)] at h
      obtain ⟨rfl, rfl⟩ := Prod.mk.inj (Option.some.inj h)
      clear h
      go_enter Tryz.func20, Tryz.ntmps20
      go_wp2_with (go_at_call 24; refine (journal_valid.calls _ _ _ _ _ HR0.out HC0.out HV.out).mono ?_; rintro r w1 ⟨rfl, hb⟩)
      go_ret2
      exact ⟨_, rfl, Kd.R_nil _ _ _ _ _, hb⟩
    · by_cases h2 : (l0.length : Int) < a1
      · rw [if_pos (.inr h2)] at h
        obtain ⟨rfl, rfl⟩ := Prod.mk.inj (Option.some.inj h)
        clear h
        go_enter Tryz.func20, Tryz.ntmps20
        go_wp2_with (go_at_call 24; refine (journal_valid.calls _ _ _ _ _ HR0.out HC0.out HV.out).mono ?_; rintro r w1 ⟨rfl, hb⟩)
        go_ret2
        exact ⟨_, rfl, Kd.R_nil _ _ _ _ _, hb⟩
      · rw [if_neg (by omega)] at h
        obtain ⟨rfl, rfl⟩ := Prod.mk.inj (Option.some.inj h)
        clear h
        obtain ⟨n, rfl⟩ : ∃ n : Nat, a1 = n := ⟨a1.toNat, by omega⟩
        rw [Int.toNat_natCast]
        have hn : n ≤ l0.length := by omega
        obtain ⟨i0, hi0, _, hsz, _⟩ := info_parts info43
        have hcut := cut_to (P := Tryz.prog) 22 43 .i64 Tryz.underlying22 hi0 A0 l0.length c0 (n : Int) (by omega) (by omega) HC0.out
        rw [Int.toNat_natCast] at hcut
        have hln : (l0.take n).length = n := by rw [List.length_take]; omega
        have HCL := Aside0.mk (fun (W : World) (hC : Kd.C k43 W A0 (l0.take n).length (l0.take n)) => clone43_calls A0 c0 (l0.take n) W hC (by rw [hln]; omega))
        have HCT := Aside0.mk (Kd.C_take HR0.out hn)
        rw [hln] at HCL HCT
        generalize l0.take n = lt at HCL HCT
        clear hi0 hsz hln
        go_enter Tryz.func20, Tryz.ntmps20
        go_wp2_with (first | (go_at_call 24; refine (journal_valid.calls _ _ _ _ _ HR0.out HC0.out HV.out).mono ?_; rintro r w1 ⟨rfl, hb⟩) | (go_at_call 39; refine (HCL.out _ (Kd.C_below HCT.out hb)).mono ?_; rintro r w2 ⟨v2, rfl, ho2, hb2⟩))
        go_ret2
        exact ⟨_, rfl, Kd.R_lower ho2 (below_size hb), below_step hb hb2⟩
  · rw [if_neg hv] at h
    obtain ⟨rfl, rfl⟩ := Prod.mk.inj (Option.some.inj h)
    have HV := Aside0.mk (show journal_valid.f l0 = some false by
      unfold journal_valid.f
      congr 1
      rw [Bool.eq_false_iff]; intro hh; rw [Bool.and_eq_true, decide_eq_true_eq] at hh; exact hv hh)
    clear hr0 hc0 hv h
    go_enter Tryz.func20, Tryz.ntmps20
    go_wp2_with (go_at_call 24; refine (journal_valid.calls _ _ _ _ _ HR0.out HC0.out HV.out).mono ?_; rintro r w1 ⟨rfl, hb⟩)
    go_ret2
    exact ⟨_, rfl, Kd.R_nil _ _ _ _ _, hb⟩
end Go.Proofs.YteblpjnkinghoaaGreat.J
namespace Go.Proofs.YteblpjnkinghoaaGreat.J
open Go.RowKit Go.Proofs.YteblpjnkinghoaaGreatW.PrintWords Go.Proofs.YteblpjnkinghoaaGreatW.PrintLast Go.Proofs.YteblpjnkinghoaaGreatW.PrintMore
attribute [local go_sem] max2_int min2_int max_two min_two max_three min_three max_four min_four   -- for this text's walks alone
set_option linter.unusedVariables false
set_option linter.unusedSimpArgs false
/-! ### journal_Quiet: function 13 -/
def journal_Quiet.f (k : Nat) (l0 : List (S43)) (a1 : Int) : Option (Int × Int) := (journal_asked.f k l0 a1).bind fun bt195 => (some (bt195.1, bt195.2))
set_option maxHeartbeats 8000000 in
set_option maxRecDepth 100000 in
theorem journal_Quiet.calls (k : Nat) (A0 : Option Addr) (c0 : Nat) (l0 : List (S43)) (a1 : Int) (r1 : Int) (r2 : Int) (w : World) (hr0 : Kd.C k43 w A0 l0.length l0) (hc0 : l0.length ≤ c0) (h : journal_Quiet.f k l0 a1 = some (r1, r2)) :
    Calls Tryz.prog 13 #[.slice A0 l0.length c0, .int .i64 a1] w fun e w' => e = .returned (.tuple #[.int .i64 r1, .int .i64 r2]) ∧ Below w.heap.size w w' := by
  have HR0 := Aside0.mk hr0
  have HC0 := Aside0.mk hc0
  clear hr0 hc0
  have HB := Aside0.mk (Below.refl w.heap.size w)
  have H : ((journal_asked.f k l0 a1).bind fun bt195 => (some (bt195.1, bt195.2))) = some (r1, r2) := h
  clear h
  replace H := Option.bind_eq_some_iff.mp H
  obtain ⟨⟨t195, t196⟩, A30, H⟩ := H
  replace H : (some (t195, t196)) = some (r1, r2) := H
  have A3 := Aside0.mk A30
  clear A30
  simp only [Option.some.injEq, Prod.mk.injEq] at H
  obtain ⟨rfl, rfl⟩ := H
  go_enter Tryz.func13, Tryz.ntmps13
  go_wp2_with (first | ((with_reducible refine gate_callee (f := 36) rfl ?_); refine goesL_ (some 8) rfl rfl Tryz.func36 (by kernel_rfl) rfl #[.slice A0 l0.length c0, .int .i64 a1] rfl (by (try simp only [List.map_toArray, List.map_cons, List.map_nil]); first | done | rfl | (simp only [List.length_drop, List.length_take]; rfl)) ?_; (with_reducible refine (journal_asked.calls k _ _ l0 a1 t195 t196 _ ?side1 ?side2 A3.out).mono ?_); (case side1 => repeat (first | exact HR0.out | (with_reducible refine Kd.C_alloc ?_ _) | (with_reducible refine Kd.C_drewN ?_ _) | (with_reducible refine Kd.C_drew ?_))); (case side2 => exact HC0.out); rintro e w4 ⟨rfl, hb⟩; refine ⟨_, rfl, ?_⟩; have n0_ := Aside0.mk (below_step (by repeat (first | (with_reducible first | exact HB.out | apply below_alloc | apply pw_below_drewN | apply below_drew1) | exact HB.out)) hb); clear HB; have HB := n0_; clear n0_; (try clear hb); (try clear hb2); (try clear hk); (try clear hi)))
  go_ret2
  exact ⟨by first | rfl | (simp [errW_none, errW_some] <;> rfl) | (simp [*, errW_none, errW_some] <;> rfl), by repeat (first | (with_reducible first | exact HB.out | apply below_alloc | apply pw_below_drewN | apply below_drew1) | exact HB.out)⟩

end Go.Proofs.YteblpjnkinghoaaGreat.J
namespace Go.Proofs.YteblpjnkinghoaaGreat.J
open Go.RowKit Go.Proofs.YteblpjnkinghoaaGreatW.PrintWords Go.Proofs.YteblpjnkinghoaaGreatW.PrintLast Go.Proofs.YteblpjnkinghoaaGreatW.PrintMore
attribute [local go_sem] max2_int min2_int max_two min_two max_three min_three max_four min_four   -- for this text's walks alone
set_option linter.unusedVariables false
set_option linter.unusedSimpArgs false
/-! ### journal_Dump: function 18 -/
def journal_Dump.l0 : Nat → List (S43) → ByteArray → Int → Option (Int × Int)
  | 0, _, _, _ => none
  | k + 1, x0, x1, x6 => if x6 ≥ 0 then (if 0 ≤ x6 then (if x6 < (x0.length : Int) then (if ((rd_T43 x0 x6).f0) = 6 then (if ((rd_T43 x0 x6).f4).toList = x1.toList then (some (wrap64 (x6 + 1), 0)) else (journal_Dump.l0 k x0 x1 (wrap64 (x6 - 1)))) else (journal_Dump.l0 k x0 x1 (wrap64 (x6 - 1)))) else (none)) else (none)) else (some (0, 8))
def journal_Dump.f (k : Nat) (l0 : List (S43)) (a1 : ByteArray) : Option (Int × Int) := (journal_valid.f l0).bind fun t197 => (if t197 = true then (journal_Dump.l0 k l0 a1 (wrap64 ((l0.length : Int) - 1))) else (some (0, 1)))
set_option maxHeartbeats 8000000 in
set_option maxRecDepth 100000 in
theorem journal_Dump.calls (k : Nat) (A0 : Option Addr) (c0 : Nat) (l0 : List (S43)) (a1 : ByteArray) (r1 : Int) (r2 : Int) (w : World) (hr0 : Kd.C k43 w A0 l0.length l0) (hc0 : l0.length ≤ c0) (h : journal_Dump.f k l0 a1 = some (r1, r2)) :
    Calls Tryz.prog 18 #[.slice A0 l0.length c0, .string a1] w fun e w' => e = .returned (.tuple #[.int .i64 r1, .int .i64 r2]) ∧ Below w.heap.size w w' := by
  have HR0 := Aside0.mk hr0
  have HC0 := Aside0.mk hc0
  clear hr0 hc0
  have HB := Aside0.mk (Below.refl w.heap.size w)
  have H : ((journal_valid.f l0).bind fun t197 => (if t197 = true then (journal_Dump.l0 k l0 a1 (wrap64 ((l0.length : Int) - 1))) else (some (0, 1)))) = some (r1, r2) := h
  clear h
  replace H := Option.bind_eq_some_iff.mp H
  obtain ⟨t197, A30, H⟩ := H
  replace H : (if t197 = true then (journal_Dump.l0 k l0 a1 (wrap64 ((l0.length : Int) - 1))) else (some (0, 1))) = some (r1, r2) := H
  have A3 := Aside0.mk A30
  clear A30
  by_cases c4 : t197 = true
  · subst c4
    have H1 : (journal_Dump.l0 k l0 a1 (wrap64 ((l0.length : Int) - 1))) = some (r1, r2) := by rw [if_pos rfl] at H; exact H
    clear H
    have H := H1
    clear H1
    have H' := Aside0.mk H
    clear H
    go_enter Tryz.func18, Tryz.ntmps18
    go_wp2_with (first | ((with_reducible refine gate_callee (f := 24) rfl ?_); refine goesL_ (some 8) rfl rfl Tryz.func24 (by kernel_rfl) rfl #[.slice A0 l0.length c0] rfl (by (try simp only [List.map_toArray, List.map_cons, List.map_nil]); first | done | rfl | (simp only [List.length_drop, List.length_take]; rfl)) ?_; (with_reducible refine (journal_valid.calls _ _ l0 true _ ?side1 ?side2 A3.out).mono ?_); (case side1 => repeat (first | exact HR0.out | (with_reducible refine Kd.C_alloc ?_ _) | (with_reducible refine Kd.C_drewN ?_ _) | (with_reducible refine Kd.C_drew ?_))); (case side2 => exact HC0.out); rintro e w5 ⟨rfl, hb⟩; refine ⟨_, rfl, ?_⟩; have n0_ := Aside0.mk (below_step (by repeat (first | (with_reducible first | exact HB.out | apply below_alloc | apply pw_below_drewN | apply below_drew1) | exact HB.out)) hb); clear HB; have HB := n0_; clear n0_; (try clear hb); (try clear hb2); (try clear hk); (try clear hi)))
    go_loopg [6] k (fun kq v6 w' => ∃ (x6_1 : Int), v6 = .int .i64 x6_1 ∧ Aside0 (journal_Dump.l0 kq l0 a1 x6_1 = some (r1, r2)) ∧ Aside0 (kq ≤ k) ∧ Aside0 (Below w.heap.size w w'))
    case atStart => exact ⟨(wrap64 ((l0.length : Int) - 1)), (by first | rfl | (simp; done) | (simp [*]; done)), H', ⟨Nat.le_refl _⟩, ⟨by repeat (first | (with_reducible first | exact HB.out | apply below_alloc | apply pw_below_drewN | apply below_drew1) | exact HB.out)⟩⟩
    case round =>
      clear H'
      try clear c1
      try clear c2
      try clear p2
      try clear c4
      obtain ⟨x6_1, rfl, HA, HK1, HB⟩ := hrel
      cases gk with
      | zero => exact absurd HA.out (by simp [journal_Dump.l0])
      | succ k1 =>
        have H := HA.out
        clear HA
        simp only [journal_Dump.l0] at H
        by_cases c6 : x6_1 ≥ 0
        · rw [if_pos c6] at H
          have c6b0 : decide (0 ≤ x6_1) = true := decide_eq_true c6
          clear c6
          by_cases c7 : 0 ≤ x6_1
          · rw [if_pos c7] at H
            have c7b0 : decide (0 ≤ x6_1) = true := decide_eq_true c7
            clear c7
            by_cases c8 : x6_1 < (l0.length : Int)
            · rw [if_pos c8] at H
              have c8b0 : decide (x6_1 < (l0.length : Int)) = true := decide_eq_true c8
              clear c8
              by_cases c9 : ((rd_T43 l0 x6_1).f0) = 6
              · rw [if_pos c9] at H
                have c9b0 : (((rd_T43 l0 x6_1).f0) == 6) = true := beq_iff_eq.mpr c9
                have c9b1 : (((rd_T43 l0 x6_1).f0) != 6) = false := bne_eq_false_iff_eq.mpr c9
                clear c9
                by_cases c10 : ((rd_T43 l0 x6_1).f4).toList = a1.toList
                · rw [if_pos c10] at H
                  have c10b0 : (((rd_T43 l0 x6_1).f4).toList == a1.toList) = true := beq_iff_eq.mpr c10
                  have c10b1 : (((rd_T43 l0 x6_1).f4).toList != a1.toList) = false := bne_eq_false_iff_eq.mpr c10
                  clear c10
                  simp only [Option.some.injEq, Prod.mk.injEq] at H
                  obtain ⟨rfl, rfl⟩ := H
                  have p198 : 0 ≤ (x6_1 : Int) := of_decide_eq_true (by first | (with_reducible assumption) | assumption)
                  have q198 : x6_1 < (l0.length : Int) := of_decide_eq_true (by first | (with_reducible assumption) | assumption)
                  obtain ⟨ad198, e198, hx198_0, hx198_1, hx198_2, hx198_3, hx198_4⟩ := at_T43 HR0.out x6_1 p198 q198
                  cases e198
                  replace hx198_0 := (HB.out.cell (World.block_lt_of_cell? w _ hx198_0)).trans hx198_0
                  replace hx198_1 := (HB.out.cell (World.block_lt_of_cell? w _ hx198_1)).trans hx198_1
                  replace hx198_2 := (HB.out.cell (World.block_lt_of_cell? w _ hx198_2)).trans hx198_2
                  replace hx198_3 := (HB.out.cell (World.block_lt_of_cell? w _ hx198_3)).trans hx198_3
                  replace hx198_4 := (HB.out.cell (World.block_lt_of_cell? w _ hx198_4)).trans hx198_4
                  replace p198 := eq_true p198
                  replace q198 := eq_true q198
                  have p199 : 0 ≤ (x6_1 : Int) := of_decide_eq_true (by first | (with_reducible assumption) | assumption)
                  have q199 : x6_1 < (l0.length : Int) := of_decide_eq_true (by first | (with_reducible assumption) | assumption)
                  obtain ⟨ad199, e199, hx199_0, hx199_1, hx199_2, hx199_3, hx199_4⟩ := at_T43 HR0.out x6_1 p199 q199
                  obtain rfl : ad198 = ad199 := (by injection e199)
                  replace hx199_0 := (HB.out.cell (World.block_lt_of_cell? w _ hx199_0)).trans hx199_0
                  replace hx199_1 := (HB.out.cell (World.block_lt_of_cell? w _ hx199_1)).trans hx199_1
                  replace hx199_2 := (HB.out.cell (World.block_lt_of_cell? w _ hx199_2)).trans hx199_2
                  replace hx199_3 := (HB.out.cell (World.block_lt_of_cell? w _ hx199_3)).trans hx199_3
                  replace hx199_4 := (HB.out.cell (World.block_lt_of_cell? w _ hx199_4)).trans hx199_4
                  replace p199 := eq_true p199
                  replace q199 := eq_true q199
                  go_wp2
                  go_ret2
                  exact ⟨by first | rfl | (simp [errW_none, errW_some] <;> rfl) | (simp [*, errW_none, errW_some] <;> rfl), by repeat (first | (with_reducible first | exact HB.out | apply below_alloc | apply pw_below_drewN | apply below_drew1) | exact HB.out)⟩
                · rw [if_neg c10] at H
                  have c10b0 : (((rd_T43 l0 x6_1).f4).toList == a1.toList) = false := beq_eq_false_iff_ne.mpr c10
                  have c10b1 : (((rd_T43 l0 x6_1).f4).toList != a1.toList) = true := bne_iff_ne.mpr c10
                  have H' := Aside0.mk H
                  clear H
                  have p198 : 0 ≤ (x6_1 : Int) := of_decide_eq_true (by first | (with_reducible assumption) | assumption)
                  have q198 : x6_1 < (l0.length : Int) := of_decide_eq_true (by first | (with_reducible assumption) | assumption)
                  obtain ⟨ad198, e198, hx198_0, hx198_1, hx198_2, hx198_3, hx198_4⟩ := at_T43 HR0.out x6_1 p198 q198
                  cases e198
                  replace hx198_0 := (HB.out.cell (World.block_lt_of_cell? w _ hx198_0)).trans hx198_0
                  replace hx198_1 := (HB.out.cell (World.block_lt_of_cell? w _ hx198_1)).trans hx198_1
                  replace hx198_2 := (HB.out.cell (World.block_lt_of_cell? w _ hx198_2)).trans hx198_2
                  replace hx198_3 := (HB.out.cell (World.block_lt_of_cell? w _ hx198_3)).trans hx198_3
                  replace hx198_4 := (HB.out.cell (World.block_lt_of_cell? w _ hx198_4)).trans hx198_4
                  replace p198 := eq_true p198
                  replace q198 := eq_true q198
                  have p199 : 0 ≤ (x6_1 : Int) := of_decide_eq_true (by first | (with_reducible assumption) | assumption)
                  have q199 : x6_1 < (l0.length : Int) := of_decide_eq_true (by first | (with_reducible assumption) | assumption)
                  obtain ⟨ad199, e199, hx199_0, hx199_1, hx199_2, hx199_3, hx199_4⟩ := at_T43 HR0.out x6_1 p199 q199
                  obtain rfl : ad198 = ad199 := (by injection e199)
                  replace hx199_0 := (HB.out.cell (World.block_lt_of_cell? w _ hx199_0)).trans hx199_0
                  replace hx199_1 := (HB.out.cell (World.block_lt_of_cell? w _ hx199_1)).trans hx199_1
                  replace hx199_2 := (HB.out.cell (World.block_lt_of_cell? w _ hx199_2)).trans hx199_2
                  replace hx199_3 := (HB.out.cell (World.block_lt_of_cell? w _ hx199_3)).trans hx199_3
                  replace hx199_4 := (HB.out.cell (World.block_lt_of_cell? w _ hx199_4)).trans hx199_4
                  replace p199 := eq_true p199
                  replace q199 := eq_true q199
                  go_wp2
                  go_roundg k1
                  case measure => have := HK1.out; omega
                  case rel => exact ⟨(wrap64 (x6_1 - 1)), (by first | rfl | (simp; done) | (simp [*]; done)), H', ⟨by have := HK1.out; omega⟩, ⟨by repeat (first | (with_reducible first | exact HB.out | apply below_alloc | apply pw_below_drewN | apply below_drew1) | exact HB.out)⟩⟩
              · rw [if_neg c9] at H
                have c9b0 : (((rd_T43 l0 x6_1).f0) == 6) = false := beq_eq_false_iff_ne.mpr c9
                have c9b1 : (((rd_T43 l0 x6_1).f0) != 6) = true := bne_iff_ne.mpr c9
                have H' := Aside0.mk H
                clear H
                have p198 : 0 ≤ (x6_1 : Int) := of_decide_eq_true (by first | (with_reducible assumption) | assumption)
                have q198 : x6_1 < (l0.length : Int) := of_decide_eq_true (by first | (with_reducible assumption) | assumption)
                obtain ⟨ad198, e198, hx198_0, hx198_1, hx198_2, hx198_3, hx198_4⟩ := at_T43 HR0.out x6_1 p198 q198
                cases e198
                replace hx198_0 := (HB.out.cell (World.block_lt_of_cell? w _ hx198_0)).trans hx198_0
                replace hx198_1 := (HB.out.cell (World.block_lt_of_cell? w _ hx198_1)).trans hx198_1
                replace hx198_2 := (HB.out.cell (World.block_lt_of_cell? w _ hx198_2)).trans hx198_2
                replace hx198_3 := (HB.out.cell (World.block_lt_of_cell? w _ hx198_3)).trans hx198_3
                replace hx198_4 := (HB.out.cell (World.block_lt_of_cell? w _ hx198_4)).trans hx198_4
                replace p198 := eq_true p198
                replace q198 := eq_true q198
                go_wp2
                go_roundg k1
                case measure => have := HK1.out; omega
                case rel => exact ⟨(wrap64 (x6_1 - 1)), (by first | rfl | (simp; done) | (simp [*]; done)), H', ⟨by have := HK1.out; omega⟩, ⟨by repeat (first | (with_reducible first | exact HB.out | apply below_alloc | apply pw_below_drewN | apply below_drew1) | exact HB.out)⟩⟩
            · rw [if_neg c8] at H
              exact absurd H (by simp)
          · rw [if_neg c7] at H
            exact absurd H (by simp)
        · rw [if_neg c6] at H
          have c6b0 : decide (0 ≤ x6_1) = false := decide_eq_false c6
          clear c6
          simp only [Option.some.injEq, Prod.mk.injEq] at H
          obtain ⟨rfl, rfl⟩ := H
          go_wp2
          go_ret2
          exact ⟨by first | rfl | (simp [errW_none, errW_some] <;> rfl) | (simp [*, errW_none, errW_some] <;> rfl), by repeat (first | (with_reducible first | exact HB.out | apply below_alloc | apply pw_below_drewN | apply below_drew1) | exact HB.out)⟩
  · replace c4 := Bool.eq_false_iff.mpr c4
    subst c4
    have H1 : (some (0, 1)) = some (r1, r2) := by rw [if_neg (show ¬ (false = true) by decide)] at H; exact H
    clear H
    have H := H1
    clear H1
    simp only [Option.some.injEq, Prod.mk.injEq] at H
    obtain ⟨rfl, rfl⟩ := H
    go_enter Tryz.func18, Tryz.ntmps18
    go_wp2_with (first | ((with_reducible refine gate_callee (f := 24) rfl ?_); refine goesL_ (some 8) rfl rfl Tryz.func24 (by kernel_rfl) rfl #[.slice A0 l0.length c0] rfl (by (try simp only [List.map_toArray, List.map_cons, List.map_nil]); first | done | rfl | (simp only [List.length_drop, List.length_take]; rfl)) ?_; (with_reducible refine (journal_valid.calls _ _ l0 false _ ?side1 ?side2 A3.out).mono ?_); (case side1 => repeat (first | exact HR0.out | (with_reducible refine Kd.C_alloc ?_ _) | (with_reducible refine Kd.C_drewN ?_ _) | (with_reducible refine Kd.C_drew ?_))); (case side2 => exact HC0.out); rintro e w11 ⟨rfl, hb⟩; refine ⟨_, rfl, ?_⟩; have n0_ := Aside0.mk (below_step (by repeat (first | (with_reducible first | exact HB.out | apply below_alloc | apply pw_below_drewN | apply below_drew1) | exact HB.out)) hb); clear HB; have HB := n0_; clear n0_; (try clear hb); (try clear hb2); (try clear hk); (try clear hi)))
    go_ret2
    exact ⟨by first | rfl | (simp [errW_none, errW_some] <;> rfl) | (simp [*, errW_none, errW_some] <;> rfl), by repeat (first | (with_reducible first | exact HB.out | apply below_alloc | apply pw_below_drewN | apply below_drew1) | exact HB.out)⟩

end Go.Proofs.YteblpjnkinghoaaGreat.J
namespace Go.Proofs.YteblpjnkinghoaaGreat.J
open Go.RowKit Go.Proofs.YteblpjnkinghoaaGreatW.PrintWords Go.Proofs.YteblpjnkinghoaaGreatW.PrintLast Go.Proofs.YteblpjnkinghoaaGreatW.PrintMore
attribute [local go_sem] max2_int min2_int max_two min_two max_three min_three max_four min_four   -- for this text's walks alone
set_option linter.unusedVariables false
set_option linter.unusedSimpArgs false
/-! ### ringworklaw25_JournalWrong: function 3 -/
mutual
def ringworklaw25_JournalWrong.j0 : Nat → List (S43) → Int → ByteArray → Int → Bool → Option (Bool)
  | 0, _, _, _, _, _ => none
  | k + 1, x0, x1, x2, x3, x26 => if x26 = true then ((ringworklaw25_awake.f).bind fun t201 => (some t201)) else ((journal_Wrong.f x0).bind fun bt202 => ((ringworkref25_Wrong.f k x0).bind fun bt204 => (if bt202.1 = bt204.1 then (ringworklaw25_JournalWrong.j1 k x0 x1 x2 x3 (bt202.2 != bt204.2)) else (ringworklaw25_JournalWrong.j1 k x0 x1 x2 x3 true))))
def ringworklaw25_JournalWrong.j1 : Nat → List (S43) → Int → ByteArray → Int → Bool → Option (Bool)
  | 0, _, _, _, _, _ => none
  | k + 1, x0, x1, x2, x3, x45 => if x45 = true then (some false) else ((journal_Open.f x0).bind fun bt206 => ((ringworkref25_Open.f k x0).bind fun bt210 => (if bt206.2 = bt210.2 then ((ringworkref10_SameInts.f k bt206.1 bt210.1).bind fun t214 => (ringworklaw25_JournalWrong.j2 k x0 x1 x2 x3 (!t214))) else (ringworklaw25_JournalWrong.j2 k x0 x1 x2 x3 true))))
def ringworklaw25_JournalWrong.j2 : Nat → List (S43) → Int → ByteArray → Int → Bool → Option (Bool)
  | 0, _, _, _, _, _ => none
  | k + 1, x0, x1, x2, x3, x64 => if x64 = true then (some false) else ((journal_Ended.f x0).bind fun bt215 => ((ringworkref25_Ended.f k x0).bind fun bt219 => (if bt215.2 = bt219.2 then ((ringworkref10_SameInts.f k bt215.1 bt219.1).bind fun t223 => (ringworklaw25_JournalWrong.j3 k x0 x1 x2 x3 (!t223))) else (ringworklaw25_JournalWrong.j3 k x0 x1 x2 x3 true))))
def ringworklaw25_JournalWrong.j3 : Nat → List (S43) → Int → ByteArray → Int → Bool → Option (Bool)
  | 0, _, _, _, _, _ => none
  | k + 1, x0, x1, x2, x3, x83 => if x83 = true then (some false) else ((journal_Quiet.f k x0 x1).bind fun bt224 => ((ringworkref25_QuietAt.f k x0 x1).bind fun bt226 => (if bt224.1 = bt226.1 then (ringworklaw25_JournalWrong.j4 k x0 x1 x2 x3 (bt224.2 != bt226.2)) else (ringworklaw25_JournalWrong.j4 k x0 x1 x2 x3 true))))
def ringworklaw25_JournalWrong.j4 : Nat → List (S43) → Int → ByteArray → Int → Bool → Option (Bool)
  | 0, _, _, _, _, _ => none
  | k + 1, x0, x1, x2, x3, x103 => if x103 = true then (some false) else ((journal_Keys.f x0 x1).bind fun bt228 => ((ringworkref25_Keys.f k x0 x1).bind fun bt232 => (if bt228.2 = bt232.2 then ((ringworkref03_SameNames.f k bt228.1 bt232.1).bind fun t236 => (ringworklaw25_JournalWrong.j5 k x0 x2 x3 (!t236))) else (ringworklaw25_JournalWrong.j5 k x0 x2 x3 true))))
def ringworklaw25_JournalWrong.j5 : Nat → List (S43) → ByteArray → Int → Bool → Option (Bool)
  | 0, _, _, _, _ => none
  | k + 1, x0, x2, x3, x124 => if x124 = true then (some false) else ((journal_Dump.f k x0 x2).bind fun bt237 => ((ringworkref25_DumpAt.f k x0 x2).bind fun bt239 => (if bt237.1 = bt239.1 then (ringworklaw25_JournalWrong.j6 k x0 x3 (bt237.2 != bt239.2)) else (ringworklaw25_JournalWrong.j6 k x0 x3 true))))
def ringworklaw25_JournalWrong.j6 : Nat → List (S43) → Int → Bool → Option (Bool)
  | 0, _, _, _ => none
  | k + 1, x0, x3, x144 => if x144 = true then (some false) else ((journal_Cut.f x0 x3).bind fun bt241 => ((ringworkref25_Cut.f k x0 x3).bind fun bt245 => (if bt241.2 = bt245.2 then ((ringworkref25_SameNotes.f k bt241.1 bt245.1).bind fun t249 => (if t249 = true then ((ringworklaw25_awake.f).bind fun t250 => (some t250)) else (some false))) else (some false))))
end
def ringworklaw25_JournalWrong.f (k : Nat) (l0 : List (S43)) (a1 : Int) (a2 : ByteArray) (a3 : Int) : Option (Bool) := (ringworklaw25_Notes.f k l0).bind fun t200 => (if t200 = true then (ringworklaw25_JournalWrong.j0 k l0 a1 a2 a3 (decide ((a2.size : Int) > 100))) else (ringworklaw25_JournalWrong.j0 k l0 a1 a2 a3 true))
set_option maxHeartbeats 8000000 in
set_option maxRecDepth 100000 in
theorem ringworklaw25_JournalWrong.calls (k : Nat) (A0 : Option Addr) (c0 : Nat) (l0 : List (S43)) (a1 : Int) (a2 : ByteArray) (a3 : Int) (r : Bool) (w : World) (hr0 : Kd.C k43 w A0 l0.length l0) (hc0 : l0.length ≤ c0) (h : ringworklaw25_JournalWrong.f k l0 a1 a2 a3 = some r) :
    Calls Tryz.prog 3 #[.slice A0 l0.length c0, .int .i64 a1, .string a2, .int .i64 a3] w fun e w' => e = .returned (.bool r) ∧ Below w.heap.size w w' := by
  have HR0 := Aside0.mk hr0
  have HC0 := Aside0.mk hc0
  clear hr0 hc0
  have HB := Aside0.mk (Below.refl w.heap.size w)
  have H : ((ringworklaw25_Notes.f k l0).bind fun t200 => (if t200 = true then (ringworklaw25_JournalWrong.j0 k l0 a1 a2 a3 (decide ((a2.size : Int) > 100))) else (ringworklaw25_JournalWrong.j0 k l0 a1 a2 a3 true))) = some r := h
  clear h
  have HC5 := Aside0.mk H
  clear H
  go_enter Tryz.func3, Tryz.ntmps3
  go_upto_region 1 with (fail)
  go_cut [26] (fun v26 wc => ∃ (kq : Nat) (x26_4 : Bool), v26 = .bool x26_4 ∧ Aside0 (ringworklaw25_JournalWrong.j0 kq l0 a1 a2 a3 x26_4 = some r) ∧ Aside0 (kq ≤ k) ∧ Aside0 (Below w.heap.size w wc))
  case first =>
    have H := HC5.out
    clear HC5
    replace H := Option.bind_eq_some_iff.mp H
    obtain ⟨t200, A60, H⟩ := H
    replace H : (if t200 = true then (ringworklaw25_JournalWrong.j0 k l0 a1 a2 a3 (decide ((a2.size : Int) > 100))) else (ringworklaw25_JournalWrong.j0 k l0 a1 a2 a3 true)) = some r := H
    have A6 := Aside0.mk A60
    clear A60
    by_cases c7 : t200 = true
    · subst c7
      have H1 : (ringworklaw25_JournalWrong.j0 k l0 a1 a2 a3 (decide ((a2.size : Int) > 100))) = some r := by rw [if_pos rfl] at H; exact H
      clear H
      have H := H1
      clear H1
      have H' := Aside0.mk H
      clear H
      go_wp2_with (first | ((with_reducible refine gate_callee (f := 4) rfl ?_); refine goesL_ (some 20) rfl rfl Tryz.func4 (by kernel_rfl) rfl #[.slice A0 l0.length c0] rfl (by (try simp only [List.map_toArray, List.map_cons, List.map_nil]); first | done | rfl | (simp only [List.length_drop, List.length_take]; rfl)) ?_; (with_reducible refine (ringworklaw25_Notes.calls k _ _ l0 true _ ?side1 ?side2 A6.out).mono ?_); (case side1 => repeat (first | exact (Kd.C_below HR0.out HB.out) | (with_reducible refine Kd.C_alloc ?_ _) | (with_reducible refine Kd.C_drewN ?_ _) | (with_reducible refine Kd.C_drew ?_))); (case side2 => exact HC0.out); rintro e w' ⟨rfl, ⟨nd, rfl⟩⟩; refine ⟨_, rfl, ?_⟩))
      go_meet
      case rel => exact ⟨_, (decide ((a2.size : Int) > 100)), (by first | rfl | (simp; done) | (simp [*]; done)), H', ⟨by first | omega | exact Nat.le_refl _⟩, ⟨by repeat (first | (with_reducible first | exact HB.out | apply below_alloc | apply pw_below_drewN | apply below_drew1) | exact HB.out)⟩⟩
    · replace c7 := Bool.eq_false_iff.mpr c7
      subst c7
      have H1 : (ringworklaw25_JournalWrong.j0 k l0 a1 a2 a3 true) = some r := by rw [if_neg (show ¬ (false = true) by decide)] at H; exact H
      clear H
      have H := H1
      clear H1
      have H' := Aside0.mk H
      clear H
      go_wp2_with (first | ((with_reducible refine gate_callee (f := 4) rfl ?_); refine goesL_ (some 20) rfl rfl Tryz.func4 (by kernel_rfl) rfl #[.slice A0 l0.length c0] rfl (by (try simp only [List.map_toArray, List.map_cons, List.map_nil]); first | done | rfl | (simp only [List.length_drop, List.length_take]; rfl)) ?_; (with_reducible refine (ringworklaw25_Notes.calls k _ _ l0 false _ ?side1 ?side2 A6.out).mono ?_); (case side1 => repeat (first | exact (Kd.C_below HR0.out HB.out) | (with_reducible refine Kd.C_alloc ?_ _) | (with_reducible refine Kd.C_drewN ?_ _) | (with_reducible refine Kd.C_drew ?_))); (case side2 => exact HC0.out); rintro e w' ⟨rfl, ⟨nd, rfl⟩⟩; refine ⟨_, rfl, ?_⟩))
      go_meet
      case rel => exact ⟨_, (true), (by first | rfl | (simp; done) | (simp [*]; done)), H', ⟨by first | omega | exact Nat.le_refl _⟩, ⟨by repeat (first | (with_reducible first | exact HB.out | apply below_alloc | apply pw_below_drewN | apply below_drew1) | exact HB.out)⟩⟩
  case rest =>
    clear HC5
    try clear p2
    try clear c3
    try clear c4
    try clear c7
    obtain ⟨kq, x26_4, rfl, HA, HJ4, HB⟩ := hcut
    cases kq with
    | zero => exact absurd HA.out (by simp [ringworklaw25_JournalWrong.j0])
    | succ kj4 =>
      have H := HA.out
      clear HA
      simp only [ringworklaw25_JournalWrong.j0] at H
      by_cases c8 : x26_4 = true
      · subst c8
        have H1 : ((ringworklaw25_awake.f).bind fun t201 => (some t201)) = some r := by rw [if_pos rfl] at H; exact H
        clear H
        have H := H1
        clear H1
        replace H := Option.bind_eq_some_iff.mp H
        obtain ⟨t201, A90, H⟩ := H
        replace H : (some t201) = some r := H
        have A9 := Aside0.mk A90
        clear A90
        obtain rfl := Option.some.inj H
        go_wp2_with (first | ((with_reducible refine gate_callee (f := 5) rfl ?_); refine goesL_ (some 27) rfl rfl Tryz.func5 (by kernel_rfl) rfl #[] rfl (by (try simp only [List.map_toArray, List.map_cons, List.map_nil]); first | done | rfl | (simp only [List.length_drop, List.length_take]; rfl)) ?_; (with_reducible refine (ringworklaw25_awake.calls  t201 _ A9.out).mono ?_); rintro e w10 ⟨rfl, hb⟩; refine ⟨_, rfl, ?_⟩; have n0_ := Aside0.mk (below_step (by repeat (first | (with_reducible first | exact HB.out | apply below_alloc | apply pw_below_drewN | apply below_drew1) | exact HB.out)) hb); clear HB; have HB := n0_; clear n0_; (try clear hb); (try clear hb2); (try clear hk); (try clear hi)))
        go_ret
        exact ⟨by first | rfl | (simp [errW_none, errW_some] <;> rfl) | (simp [*, errW_none, errW_some] <;> rfl), by repeat (first | (with_reducible first | exact HB.out | apply below_alloc | apply pw_below_drewN | apply below_drew1) | exact HB.out)⟩
      · replace c8 := Bool.eq_false_iff.mpr c8
        subst c8
        have H1 : ((journal_Wrong.f l0).bind fun bt202 => ((ringworkref25_Wrong.f kj4 l0).bind fun bt204 => (if bt202.1 = bt204.1 then (ringworklaw25_JournalWrong.j1 kj4 l0 a1 a2 a3 (bt202.2 != bt204.2)) else (ringworklaw25_JournalWrong.j1 kj4 l0 a1 a2 a3 true)))) = some r := by rw [if_neg (show ¬ (false = true) by decide)] at H; exact H
        clear H
        have H := H1
        clear H1
        replace H := Option.bind_eq_some_iff.mp H
        obtain ⟨⟨t202, t203⟩, A110, H⟩ := H
        replace H : ((ringworkref25_Wrong.f kj4 l0).bind fun bt204 => (if t202 = bt204.1 then (ringworklaw25_JournalWrong.j1 kj4 l0 a1 a2 a3 (t203 != bt204.2)) else (ringworklaw25_JournalWrong.j1 kj4 l0 a1 a2 a3 true))) = some r := H
        have A11 := Aside0.mk A110
        clear A110
        replace H := Option.bind_eq_some_iff.mp H
        obtain ⟨⟨t204, t205⟩, A120, H⟩ := H
        replace H : (if t202 = t204 then (ringworklaw25_JournalWrong.j1 kj4 l0 a1 a2 a3 (t203 != t205)) else (ringworklaw25_JournalWrong.j1 kj4 l0 a1 a2 a3 true)) = some r := H
        have A12 := Aside0.mk A120
        clear A120
        have HC13 := Aside0.mk H
        clear H
        go_upto_region 5 with (first | ((with_reducible refine gate_callee (f := 6) rfl ?_); refine goesL_ (some 30) rfl rfl Tryz.func6 (by kernel_rfl) rfl #[.slice A0 l0.length c0] rfl (by (try simp only [List.map_toArray, List.map_cons, List.map_nil]); first | done | rfl | (simp only [List.length_drop, List.length_take]; rfl)) ?_; (with_reducible refine (journal_Wrong.calls _ _ l0 t202 t203 _ ?side1 ?side2 A11.out).mono ?_); (case side1 => repeat (first | exact (Kd.C_below HR0.out HB.out) | (with_reducible refine Kd.C_alloc ?_ _) | (with_reducible refine Kd.C_drewN ?_ _) | (with_reducible refine Kd.C_drew ?_))); (case side2 => exact HC0.out); rintro e w14 ⟨rfl, hb⟩; refine ⟨_, rfl, ?_⟩; have n0_ := Aside0.mk (below_step (by repeat (first | (with_reducible first | exact HB.out | apply below_alloc | apply pw_below_drewN | apply below_drew1) | exact HB.out)) hb); clear HB; have HB := n0_; clear n0_; (try clear hb); (try clear hb2); (try clear hk); (try clear hi)) | ((with_reducible refine gate_callee (f := 7) rfl ?_); refine goesL_ (some 35) rfl rfl Tryz.func7 (by kernel_rfl) rfl #[.slice A0 l0.length c0] rfl (by (try simp only [List.map_toArray, List.map_cons, List.map_nil]); first | done | rfl | (simp only [List.length_drop, List.length_take]; rfl)) ?_; (with_reducible refine (ringworkref25_Wrong.calls kj4 _ _ l0 t204 t205 _ ?side1 ?side2 A12.out).mono ?_); (case side1 => repeat (first | exact (Kd.C_below HR0.out HB.out) | (with_reducible refine Kd.C_alloc ?_ _) | (with_reducible refine Kd.C_drewN ?_ _) | (with_reducible refine Kd.C_drew ?_))); (case side2 => exact HC0.out); rintro e w15 ⟨rfl, hb⟩; refine ⟨_, rfl, ?_⟩; have n0_ := Aside0.mk (below_step (by repeat (first | (with_reducible first | exact HB.out | apply below_alloc | apply pw_below_drewN | apply below_drew1) | exact HB.out)) hb); clear HB; have HB := n0_; clear n0_; (try clear hb); (try clear hb2); (try clear hk); (try clear hi)))
        (try simp only [Act.put, List.setIfInBounds_toArray, List.set_cons_zero, List.set_cons_succ])
        go_cut [45] (fun v45 wc => ∃ (kq : Nat) (x45_12 : Bool), v45 = .bool x45_12 ∧ Aside0 (ringworklaw25_JournalWrong.j1 kq l0 a1 a2 a3 x45_12 = some r) ∧ Aside0 (kq ≤ kj4) ∧ Aside0 (Below w.heap.size w wc))
        case first =>
          have H := HC13.out
          clear HC13
          by_cases c16 : t202 = t204
          · rw [if_pos c16] at H
            have c16b0 : (t202 == t204) = true := beq_iff_eq.mpr c16
            have c16b1 : (t202 != t204) = false := bne_eq_false_iff_eq.mpr c16
            clear c16
            (first | rw [c16b0] | (simp only [i64_w, i32_w]; rw [c16b0]) | skip)
            have H' := Aside0.mk H
            clear H
            go_wp2
            go_meet
            case rel => exact ⟨_, ((t203 != t205)), (by first | rfl | (simp; done) | (simp [*]; done)), H', ⟨by have := HJ4.out; first | omega | exact Nat.le_refl _⟩, ⟨by repeat (first | (with_reducible first | exact HB.out | apply below_alloc | apply pw_below_drewN | apply below_drew1) | exact HB.out)⟩⟩
          · rw [if_neg c16] at H
            have c16b0 : (t202 == t204) = false := beq_eq_false_iff_ne.mpr c16
            have c16b1 : (t202 != t204) = true := bne_iff_ne.mpr c16
            (first | rw [c16b0] | (simp only [i64_w, i32_w]; rw [c16b0]) | skip)
            have H' := Aside0.mk H
            clear H
            go_wp2
            go_meet
            case rel => exact ⟨_, (true), (by first | rfl | (simp; done) | (simp [*]; done)), H', ⟨by have := HJ4.out; first | omega | exact Nat.le_refl _⟩, ⟨by repeat (first | (with_reducible first | exact HB.out | apply below_alloc | apply pw_below_drewN | apply below_drew1) | exact HB.out)⟩⟩
        case rest =>
          clear HC13
          try clear c1
          try clear p2
          try clear c3
          try clear c4
          try clear c5
          try clear c6
          try clear c7
          try clear c8
          try clear c16
          try clear c16b0
          try clear c16b1
          try clear p2
          obtain ⟨kq, x45_12, rfl, HA, HJ12, HB⟩ := hcut
          cases kq with
          | zero => exact absurd HA.out (by simp [ringworklaw25_JournalWrong.j1])
          | succ kj12 =>
            have H := HA.out
            clear HA
            simp only [ringworklaw25_JournalWrong.j1] at H
            by_cases c17 : x45_12 = true
            · subst c17
              have H1 : (some false) = some r := by rw [if_pos rfl] at H; exact H
              clear H
              have H := H1
              clear H1
              obtain rfl := Option.some.inj H
              go_wp2
              go_ret
              exact ⟨by first | rfl | (simp [errW_none, errW_some] <;> rfl) | (simp [*, errW_none, errW_some] <;> rfl), by repeat (first | (with_reducible first | exact HB.out | apply below_alloc | apply pw_below_drewN | apply below_drew1) | exact HB.out)⟩
            · replace c17 := Bool.eq_false_iff.mpr c17
              subst c17
              have H1 : ((journal_Open.f l0).bind fun bt206 => ((ringworkref25_Open.f kj12 l0).bind fun bt210 => (if bt206.2 = bt210.2 then ((ringworkref10_SameInts.f kj12 bt206.1 bt210.1).bind fun t214 => (ringworklaw25_JournalWrong.j2 kj12 l0 a1 a2 a3 (!t214))) else (ringworklaw25_JournalWrong.j2 kj12 l0 a1 a2 a3 true)))) = some r := by rw [if_neg (show ¬ (false = true) by decide)] at H; exact H
              clear H
              have H := H1
              clear H1
              replace H := Option.bind_eq_some_iff.mp H
              obtain ⟨⟨t206, t207⟩, A180, H⟩ := H
              replace H : ((ringworkref25_Open.f kj12 l0).bind fun bt210 => (if t207 = bt210.2 then ((ringworkref10_SameInts.f kj12 t206 bt210.1).bind fun t214 => (ringworklaw25_JournalWrong.j2 kj12 l0 a1 a2 a3 (!t214))) else (ringworklaw25_JournalWrong.j2 kj12 l0 a1 a2 a3 true))) = some r := H
              have A18 := Aside0.mk A180
              clear A180
              replace H := Option.bind_eq_some_iff.mp H
              obtain ⟨⟨t210, t211⟩, A190, H⟩ := H
              replace H : (if t207 = t211 then ((ringworkref10_SameInts.f kj12 t206 t210).bind fun t214 => (ringworklaw25_JournalWrong.j2 kj12 l0 a1 a2 a3 (!t214))) else (ringworklaw25_JournalWrong.j2 kj12 l0 a1 a2 a3 true)) = some r := H
              have A19 := Aside0.mk A190
              clear A190
              have HC20 := Aside0.mk H
              clear H
              go_upto_region 9 with (first | ((with_reducible refine gate_callee (f := 8) rfl ?_); refine goesL_ (some 48) rfl rfl Tryz.func8 (by kernel_rfl) rfl #[.slice A0 l0.length c0] rfl (by (try simp only [List.map_toArray, List.map_cons, List.map_nil]); first | done | rfl | (simp only [List.length_drop, List.length_take]; rfl)) ?_; (with_reducible refine (journal_Open.calls _ _ l0 t206 t207 _ ?side1 ?side2 A18.out).mono ?_); (case side1 => repeat (first | exact (Kd.C_below HR0.out HB.out) | (with_reducible refine Kd.C_alloc ?_ _) | (with_reducible refine Kd.C_drewN ?_ _) | (with_reducible refine Kd.C_drew ?_))); (case side2 => exact HC0.out); rintro e w21 ⟨v208, rfl, ho0, hb⟩; refine ⟨_, rfl, ?_⟩; have n0_ := Aside0.mk (Kd.R_lower ho0 (below_size (by repeat (first | (with_reducible first | exact HB.out | apply below_alloc | apply pw_below_drewN | apply below_drew1) | exact HB.out)))); have n1_ := Aside0.mk (below_step (by repeat (first | (with_reducible first | exact HB.out | apply below_alloc | apply pw_below_drewN | apply below_drew1) | exact HB.out)) hb); clear HB; have HO209 := n0_; have HB := n1_; clear n0_ n1_; (try clear hb); (try clear hb2); (try clear hk); (try clear hi); (try clear ho0)) | ((with_reducible refine gate_callee (f := 9) rfl ?_); refine goesL_ (some 53) rfl rfl Tryz.func9 (by kernel_rfl) rfl #[.slice A0 l0.length c0] rfl (by (try simp only [List.map_toArray, List.map_cons, List.map_nil]); first | done | rfl | (simp only [List.length_drop, List.length_take]; rfl)) ?_; (with_reducible refine (ringworkref25_Open.calls kj12 _ _ l0 t210 t211 _ ?side1 ?side2 A19.out).mono ?_); (case side1 => repeat (first | exact (Kd.C_below HR0.out HB.out) | (with_reducible refine Kd.C_alloc ?_ _) | (with_reducible refine Kd.C_drewN ?_ _) | (with_reducible refine Kd.C_drew ?_))); (case side2 => exact HC0.out); rintro e w22 ⟨v212, rfl, ho0, hb⟩; refine ⟨_, rfl, ?_⟩; have n0_ := Aside0.mk (Kd.R_elder' (by (with_reducible repeat (first | apply Kd.R_alloc | apply Kd.R_drewN | apply Kd.R_drew)); exact HO209.out) (Kd.R_base ho0) hb); have n1_ := Aside0.mk (Kd.R_lower (Kd.R_new' ho0 (Kd.R_lt (by (with_reducible repeat (first | apply Kd.R_alloc | apply Kd.R_drewN | apply Kd.R_drew)); exact HO209.out))) (below_size (by repeat (first | (with_reducible first | exact HB.out | apply below_alloc | apply pw_below_drewN | apply below_drew1) | exact HB.out)))); have n2_ := Aside0.mk (below_step (by repeat (first | (with_reducible first | exact HB.out | apply below_alloc | apply pw_below_drewN | apply below_drew1) | exact HB.out)) hb); clear HO209; clear HB; have HO209 := n0_; have HO213 := n1_; have HB := n2_; clear n0_ n1_ n2_; (try clear hb); (try clear hb2); (try clear hk); (try clear hi); (try clear ho0)))
              (try simp only [Act.put, List.setIfInBounds_toArray, List.set_cons_zero, List.set_cons_succ])
              go_cut [64] (fun v64 wc => ∃ (kq : Nat) (x64_19 : Bool), v64 = .bool x64_19 ∧ Aside0 (ringworklaw25_JournalWrong.j2 kq l0 a1 a2 a3 x64_19 = some r) ∧ Aside0 (kq ≤ kj12) ∧ Aside0 (Below w.heap.size w wc))
              case first =>
                have H := HC20.out
                clear HC20
                by_cases c23 : t207 = t211
                · rw [if_pos c23] at H
                  have c23b0 : (t207 == t211) = true := beq_iff_eq.mpr c23
                  have c23b1 : (t207 != t211) = false := bne_eq_false_iff_eq.mpr c23
                  clear c23
                  (first | rw [c23b0] | (simp only [i64_w, i32_w]; rw [c23b0]) | skip)
                  replace H := Option.bind_eq_some_iff.mp H
                  obtain ⟨t214, A240, H⟩ := H
                  replace H : (ringworklaw25_JournalWrong.j2 kj12 l0 a1 a2 a3 (!t214)) = some r := H
                  have A24 := Aside0.mk A240
                  clear A240
                  have H' := Aside0.mk H
                  clear H
                  obtain ⟨Ao25, co25, eo25⟩ := Kd.R_slice HO209.out
                  subst eo25
                  obtain ⟨Ao26, co26, eo26⟩ := Kd.R_slice HO213.out
                  subst eo26
                  go_wp2_with (first | (go_at_call 10; (with_reducible refine (ringworkref10_SameInts.calls kj12 _ _ t206 _ _ t210 t214 _ ?side1 ?side2 ?side3 ?side4 A24.out).mono ?_); (case side1 => repeat (first | exact (Kd.R_reads' HO209.out).2.2 | (with_reducible refine Kd.C_alloc ?_ _) | (with_reducible refine Kd.C_drewN ?_ _) | (with_reducible refine Kd.C_drew ?_))); (case side2 => exact (Kd.R_reads' HO209.out).2.1); (case side3 => repeat (first | exact (Kd.R_reads' HO213.out).2.2 | (with_reducible refine Kd.C_alloc ?_ _) | (with_reducible refine Kd.C_drewN ?_ _) | (with_reducible refine Kd.C_drew ?_))); (case side4 => exact (Kd.R_reads' HO213.out).2.1); rintro e w' ⟨rfl, ⟨nd, rfl⟩⟩))
                  go_meet
                  case rel => exact ⟨_, (!t214), (by first | rfl | (simp; done) | (simp [*]; done)), H', ⟨by have := HJ4.out; have := HJ12.out; first | omega | exact Nat.le_refl _⟩, ⟨by repeat (first | (with_reducible first | exact HB.out | apply below_alloc | apply pw_below_drewN | apply below_drew1) | exact HB.out)⟩⟩
                · rw [if_neg c23] at H
                  have c23b0 : (t207 == t211) = false := beq_eq_false_iff_ne.mpr c23
                  have c23b1 : (t207 != t211) = true := bne_iff_ne.mpr c23
                  (first | rw [c23b0] | (simp only [i64_w, i32_w]; rw [c23b0]) | skip)
                  have H' := Aside0.mk H
                  clear H
                  go_wp2
                  go_meet
                  case rel => exact ⟨_, (true), (by first | rfl | (simp; done) | (simp [*]; done)), H', ⟨by have := HJ4.out; have := HJ12.out; first | omega | exact Nat.le_refl _⟩, ⟨by repeat (first | (with_reducible first | exact HB.out | apply below_alloc | apply pw_below_drewN | apply below_drew1) | exact HB.out)⟩⟩
              case rest =>
                clear HC20
                try clear c1
                try clear c2
                try clear p2
                try clear c3
                try clear c4
                try clear c5
                try clear c6
                try clear c7
                try clear c8
                try clear c9
                try clear c16
                try clear c16b0
                try clear c16b1
                try clear c17
                try clear c23
                try clear c23b0
                try clear c23b1
                try clear p2
                obtain ⟨kq, x64_19, rfl, HA, HJ19, HB⟩ := hcut
                cases kq with
                | zero => exact absurd HA.out (by simp [ringworklaw25_JournalWrong.j2])
                | succ kj19 =>
                  have H := HA.out
                  clear HA
                  simp only [ringworklaw25_JournalWrong.j2] at H
                  by_cases c27 : x64_19 = true
                  · subst c27
                    have H1 : (some false) = some r := by rw [if_pos rfl] at H; exact H
                    clear H
                    have H := H1
                    clear H1
                    obtain rfl := Option.some.inj H
                    go_wp2
                    go_ret
                    exact ⟨by first | rfl | (simp [errW_none, errW_some] <;> rfl) | (simp [*, errW_none, errW_some] <;> rfl), by repeat (first | (with_reducible first | exact HB.out | apply below_alloc | apply pw_below_drewN | apply below_drew1) | exact HB.out)⟩
                  · replace c27 := Bool.eq_false_iff.mpr c27
                    subst c27
                    have H1 : ((journal_Ended.f l0).bind fun bt215 => ((ringworkref25_Ended.f kj19 l0).bind fun bt219 => (if bt215.2 = bt219.2 then ((ringworkref10_SameInts.f kj19 bt215.1 bt219.1).bind fun t223 => (ringworklaw25_JournalWrong.j3 kj19 l0 a1 a2 a3 (!t223))) else (ringworklaw25_JournalWrong.j3 kj19 l0 a1 a2 a3 true)))) = some r := by rw [if_neg (show ¬ (false = true) by decide)] at H; exact H
                    clear H
                    have H := H1
                    clear H1
                    replace H := Option.bind_eq_some_iff.mp H
                    obtain ⟨⟨t215, t216⟩, A280, H⟩ := H
                    replace H : ((ringworkref25_Ended.f kj19 l0).bind fun bt219 => (if t216 = bt219.2 then ((ringworkref10_SameInts.f kj19 t215 bt219.1).bind fun t223 => (ringworklaw25_JournalWrong.j3 kj19 l0 a1 a2 a3 (!t223))) else (ringworklaw25_JournalWrong.j3 kj19 l0 a1 a2 a3 true))) = some r := H
                    have A28 := Aside0.mk A280
                    clear A280
                    replace H := Option.bind_eq_some_iff.mp H
                    obtain ⟨⟨t219, t220⟩, A290, H⟩ := H
                    replace H : (if t216 = t220 then ((ringworkref10_SameInts.f kj19 t215 t219).bind fun t223 => (ringworklaw25_JournalWrong.j3 kj19 l0 a1 a2 a3 (!t223))) else (ringworklaw25_JournalWrong.j3 kj19 l0 a1 a2 a3 true)) = some r := H
                    have A29 := Aside0.mk A290
                    clear A290
                    have HC30 := Aside0.mk H
                    clear H
                    go_upto_region 13 with (first | ((with_reducible refine gate_callee (f := 11) rfl ?_); refine goesL_ (some 67) rfl rfl Tryz.func11 (by kernel_rfl) rfl #[.slice A0 l0.length c0] rfl (by (try simp only [List.map_toArray, List.map_cons, List.map_nil]); first | done | rfl | (simp only [List.length_drop, List.length_take]; rfl)) ?_; (with_reducible refine (journal_Ended.calls _ _ l0 t215 t216 _ ?side1 ?side2 A28.out).mono ?_); (case side1 => repeat (first | exact (Kd.C_below HR0.out HB.out) | (with_reducible refine Kd.C_alloc ?_ _) | (with_reducible refine Kd.C_drewN ?_ _) | (with_reducible refine Kd.C_drew ?_))); (case side2 => exact HC0.out); rintro e w31 ⟨v217, rfl, ho0, hb⟩; refine ⟨_, rfl, ?_⟩; have n0_ := Aside0.mk (Kd.R_lower ho0 (below_size (by repeat (first | (with_reducible first | exact HB.out | apply below_alloc | apply pw_below_drewN | apply below_drew1) | exact HB.out)))); have n1_ := Aside0.mk (below_step (by repeat (first | (with_reducible first | exact HB.out | apply below_alloc | apply pw_below_drewN | apply below_drew1) | exact HB.out)) hb); clear HB; have HO218 := n0_; have HB := n1_; clear n0_ n1_; (try clear hb); (try clear hb2); (try clear hk); (try clear hi); (try clear ho0)) | ((with_reducible refine gate_callee (f := 12) rfl ?_); refine goesL_ (some 72) rfl rfl Tryz.func12 (by kernel_rfl) rfl #[.slice A0 l0.length c0] rfl (by (try simp only [List.map_toArray, List.map_cons, List.map_nil]); first | done | rfl | (simp only [List.length_drop, List.length_take]; rfl)) ?_; (with_reducible refine (ringworkref25_Ended.calls kj19 _ _ l0 t219 t220 _ ?side1 ?side2 A29.out).mono ?_); (case side1 => repeat (first | exact (Kd.C_below HR0.out HB.out) | (with_reducible refine Kd.C_alloc ?_ _) | (with_reducible refine Kd.C_drewN ?_ _) | (with_reducible refine Kd.C_drew ?_))); (case side2 => exact HC0.out); rintro e w32 ⟨v221, rfl, ho0, hb⟩; refine ⟨_, rfl, ?_⟩; have n0_ := Aside0.mk (Kd.R_elder' (by (with_reducible repeat (first | apply Kd.R_alloc | apply Kd.R_drewN | apply Kd.R_drew)); exact HO218.out) (Kd.R_base ho0) hb); have n1_ := Aside0.mk (Kd.R_lower (Kd.R_new' ho0 (Kd.R_lt (by (with_reducible repeat (first | apply Kd.R_alloc | apply Kd.R_drewN | apply Kd.R_drew)); exact HO218.out))) (below_size (by repeat (first | (with_reducible first | exact HB.out | apply below_alloc | apply pw_below_drewN | apply below_drew1) | exact HB.out)))); have n2_ := Aside0.mk (below_step (by repeat (first | (with_reducible first | exact HB.out | apply below_alloc | apply pw_below_drewN | apply below_drew1) | exact HB.out)) hb); clear HO218; clear HB; have HO218 := n0_; have HO222 := n1_; have HB := n2_; clear n0_ n1_ n2_; (try clear hb); (try clear hb2); (try clear hk); (try clear hi); (try clear ho0)))
                    (try simp only [Act.put, List.setIfInBounds_toArray, List.set_cons_zero, List.set_cons_succ])
                    go_cut [83] (fun v83 wc => ∃ (kq : Nat) (x83_29 : Bool), v83 = .bool x83_29 ∧ Aside0 (ringworklaw25_JournalWrong.j3 kq l0 a1 a2 a3 x83_29 = some r) ∧ Aside0 (kq ≤ kj19) ∧ Aside0 (Below w.heap.size w wc))
                    case first =>
                      have H := HC30.out
                      clear HC30
                      by_cases c33 : t216 = t220
                      · rw [if_pos c33] at H
                        have c33b0 : (t216 == t220) = true := beq_iff_eq.mpr c33
                        have c33b1 : (t216 != t220) = false := bne_eq_false_iff_eq.mpr c33
                        clear c33
                        (first | rw [c33b0] | (simp only [i64_w, i32_w]; rw [c33b0]) | skip)
                        replace H := Option.bind_eq_some_iff.mp H
                        obtain ⟨t223, A340, H⟩ := H
                        replace H : (ringworklaw25_JournalWrong.j3 kj19 l0 a1 a2 a3 (!t223)) = some r := H
                        have A34 := Aside0.mk A340
                        clear A340
                        have H' := Aside0.mk H
                        clear H
                        obtain ⟨Ao35, co35, eo35⟩ := Kd.R_slice HO218.out
                        subst eo35
                        obtain ⟨Ao36, co36, eo36⟩ := Kd.R_slice HO222.out
                        subst eo36
                        go_wp2_with (first | (go_at_call 10; (with_reducible refine (ringworkref10_SameInts.calls kj19 _ _ t215 _ _ t219 t223 _ ?side1 ?side2 ?side3 ?side4 A34.out).mono ?_); (case side1 => repeat (first | exact (Kd.R_reads' HO218.out).2.2 | (with_reducible refine Kd.C_alloc ?_ _) | (with_reducible refine Kd.C_drewN ?_ _) | (with_reducible refine Kd.C_drew ?_))); (case side2 => exact (Kd.R_reads' HO218.out).2.1); (case side3 => repeat (first | exact (Kd.R_reads' HO222.out).2.2 | (with_reducible refine Kd.C_alloc ?_ _) | (with_reducible refine Kd.C_drewN ?_ _) | (with_reducible refine Kd.C_drew ?_))); (case side4 => exact (Kd.R_reads' HO222.out).2.1); rintro e w' ⟨rfl, ⟨nd, rfl⟩⟩))
                        go_meet
                        case rel => exact ⟨_, (!t223), (by first | rfl | (simp; done) | (simp [*]; done)), H', ⟨by have := HJ4.out; have := HJ12.out; have := HJ19.out; first | omega | exact Nat.le_refl _⟩, ⟨by repeat (first | (with_reducible first | exact HB.out | apply below_alloc | apply pw_below_drewN | apply below_drew1) | exact HB.out)⟩⟩
                      · rw [if_neg c33] at H
                        have c33b0 : (t216 == t220) = false := beq_eq_false_iff_ne.mpr c33
                        have c33b1 : (t216 != t220) = true := bne_iff_ne.mpr c33
                        (first | rw [c33b0] | (simp only [i64_w, i32_w]; rw [c33b0]) | skip)
                        have H' := Aside0.mk H
                        clear H
                        go_wp2
                        go_meet
                        case rel => exact ⟨_, (true), (by first | rfl | (simp; done) | (simp [*]; done)), H', ⟨by have := HJ4.out; have := HJ12.out; have := HJ19.out; first | omega | exact Nat.le_refl _⟩, ⟨by repeat (first | (with_reducible first | exact HB.out | apply below_alloc | apply pw_below_drewN | apply below_drew1) | exact HB.out)⟩⟩
                    case rest =>
                      clear HC30
                      try clear c1
                      try clear c2
                      try clear p2
                      try clear c3
                      try clear c4
                      try clear c5
                      try clear c6
                      try clear c7
                      try clear c8
                      try clear c9
                      try clear c11
                      try clear c12
                      try clear c16
                      try clear c16b0
                      try clear c16b1
                      try clear c17
                      try clear c23
                      try clear c23b0
                      try clear c23b1
                      try clear c27
                      try clear c33
                      try clear c33b0
                      try clear c33b1
                      try clear p2
                      obtain ⟨kq, x83_29, rfl, HA, HJ29, HB⟩ := hcut
                      cases kq with
                      | zero => exact absurd HA.out (by simp [ringworklaw25_JournalWrong.j3])
                      | succ kj29 =>
                        have H := HA.out
                        clear HA
                        simp only [ringworklaw25_JournalWrong.j3] at H
                        by_cases c37 : x83_29 = true
                        · subst c37
                          have H1 : (some false) = some r := by rw [if_pos rfl] at H; exact H
                          clear H
                          have H := H1
                          clear H1
                          obtain rfl := Option.some.inj H
                          go_wp2
                          go_ret
                          exact ⟨by first | rfl | (simp [errW_none, errW_some] <;> rfl) | (simp [*, errW_none, errW_some] <;> rfl), by repeat (first | (with_reducible first | exact HB.out | apply below_alloc | apply pw_below_drewN | apply below_drew1) | exact HB.out)⟩
                        · replace c37 := Bool.eq_false_iff.mpr c37
                          subst c37
                          have H1 : ((journal_Quiet.f kj29 l0 a1).bind fun bt224 => ((ringworkref25_QuietAt.f kj29 l0 a1).bind fun bt226 => (if bt224.1 = bt226.1 then (ringworklaw25_JournalWrong.j4 kj29 l0 a1 a2 a3 (bt224.2 != bt226.2)) else (ringworklaw25_JournalWrong.j4 kj29 l0 a1 a2 a3 true)))) = some r := by rw [if_neg (show ¬ (false = true) by decide)] at H; exact H
                          clear H
                          have H := H1
                          clear H1
                          replace H := Option.bind_eq_some_iff.mp H
                          obtain ⟨⟨t224, t225⟩, A380, H⟩ := H
                          replace H : ((ringworkref25_QuietAt.f kj29 l0 a1).bind fun bt226 => (if t224 = bt226.1 then (ringworklaw25_JournalWrong.j4 kj29 l0 a1 a2 a3 (t225 != bt226.2)) else (ringworklaw25_JournalWrong.j4 kj29 l0 a1 a2 a3 true))) = some r := H
                          have A38 := Aside0.mk A380
                          clear A380
                          replace H := Option.bind_eq_some_iff.mp H
                          obtain ⟨⟨t226, t227⟩, A390, H⟩ := H
                          replace H : (if t224 = t226 then (ringworklaw25_JournalWrong.j4 kj29 l0 a1 a2 a3 (t225 != t227)) else (ringworklaw25_JournalWrong.j4 kj29 l0 a1 a2 a3 true)) = some r := H
                          have A39 := Aside0.mk A390
                          clear A390
                          have HC40 := Aside0.mk H
                          clear H
                          go_upto_region 17 with (first | ((with_reducible refine gate_callee (f := 13) rfl ?_); refine goesL_ (some 87) rfl rfl Tryz.func13 (by kernel_rfl) rfl #[.slice A0 l0.length c0, .int .i64 a1] rfl (by (try simp only [List.map_toArray, List.map_cons, List.map_nil]); first | done | rfl | (simp only [List.length_drop, List.length_take]; rfl)) ?_; (with_reducible refine (journal_Quiet.calls kj29 _ _ l0 a1 t224 t225 _ ?side1 ?side2 A38.out).mono ?_); (case side1 => repeat (first | exact (Kd.C_below HR0.out HB.out) | (with_reducible refine Kd.C_alloc ?_ _) | (with_reducible refine Kd.C_drewN ?_ _) | (with_reducible refine Kd.C_drew ?_))); (case side2 => exact HC0.out); rintro e w41 ⟨rfl, hb⟩; refine ⟨_, rfl, ?_⟩; have n0_ := Aside0.mk (below_step (by repeat (first | (with_reducible first | exact HB.out | apply below_alloc | apply pw_below_drewN | apply below_drew1) | exact HB.out)) hb); clear HB; have HB := n0_; clear n0_; (try clear hb); (try clear hb2); (try clear hk); (try clear hi)) | ((with_reducible refine gate_callee (f := 14) rfl ?_); refine goesL_ (some 93) rfl rfl Tryz.func14 (by kernel_rfl) rfl #[.slice A0 l0.length c0, .int .i64 a1] rfl (by (try simp only [List.map_toArray, List.map_cons, List.map_nil]); first | done | rfl | (simp only [List.length_drop, List.length_take]; rfl)) ?_; (with_reducible refine (ringworkref25_QuietAt.calls kj29 _ _ l0 a1 t226 t227 _ ?side1 ?side2 A39.out).mono ?_); (case side1 => repeat (first | exact (Kd.C_below HR0.out HB.out) | (with_reducible refine Kd.C_alloc ?_ _) | (with_reducible refine Kd.C_drewN ?_ _) | (with_reducible refine Kd.C_drew ?_))); (case side2 => exact HC0.out); rintro e w42 ⟨rfl, hb⟩; refine ⟨_, rfl, ?_⟩; have n0_ := Aside0.mk (below_step (by repeat (first | (with_reducible first | exact HB.out | apply below_alloc | apply pw_below_drewN | apply below_drew1) | exact HB.out)) hb); clear HB; have HB := n0_; clear n0_; (try clear hb); (try clear hb2); (try clear hk); (try clear hi)))
                          (try simp only [Act.put, List.setIfInBounds_toArray, List.set_cons_zero, List.set_cons_succ])
                          go_cut [103] (fun v103 wc => ∃ (kq : Nat) (x103_39 : Bool), v103 = .bool x103_39 ∧ Aside0 (ringworklaw25_JournalWrong.j4 kq l0 a1 a2 a3 x103_39 = some r) ∧ Aside0 (kq ≤ kj29) ∧ Aside0 (Below w.heap.size w wc))
                          case first =>
                            have H := HC40.out
                            clear HC40
                            by_cases c43 : t224 = t226
                            · rw [if_pos c43] at H
                              have c43b0 : (t224 == t226) = true := beq_iff_eq.mpr c43
                              have c43b1 : (t224 != t226) = false := bne_eq_false_iff_eq.mpr c43
                              clear c43
                              (first | rw [c43b0] | (simp only [i64_w, i32_w]; rw [c43b0]) | skip)
                              have H' := Aside0.mk H
                              clear H
                              go_wp2
                              go_meet
                              case rel => exact ⟨_, ((t225 != t227)), (by first | rfl | (simp; done) | (simp [*]; done)), H', ⟨by have := HJ4.out; have := HJ12.out; have := HJ19.out; have := HJ29.out; first | omega | exact Nat.le_refl _⟩, ⟨by repeat (first | (with_reducible first | exact HB.out | apply below_alloc | apply pw_below_drewN | apply below_drew1) | exact HB.out)⟩⟩
                            · rw [if_neg c43] at H
                              have c43b0 : (t224 == t226) = false := beq_eq_false_iff_ne.mpr c43
                              have c43b1 : (t224 != t226) = true := bne_iff_ne.mpr c43
                              (first | rw [c43b0] | (simp only [i64_w, i32_w]; rw [c43b0]) | skip)
                              have H' := Aside0.mk H
                              clear H
                              go_wp2
                              go_meet
                              case rel => exact ⟨_, (true), (by first | rfl | (simp; done) | (simp [*]; done)), H', ⟨by have := HJ4.out; have := HJ12.out; have := HJ19.out; have := HJ29.out; first | omega | exact Nat.le_refl _⟩, ⟨by repeat (first | (with_reducible first | exact HB.out | apply below_alloc | apply pw_below_drewN | apply below_drew1) | exact HB.out)⟩⟩
                          case rest =>
                            clear HC40
                            try clear c1
                            try clear c2
                            try clear p2
                            try clear c3
                            try clear c4
                            try clear c5
                            try clear c6
                            try clear c7
                            try clear c8
                            try clear c9
                            try clear c11
                            try clear c12
                            try clear c13
                            try clear c14
                            try clear c16
                            try clear c16b0
                            try clear c16b1
                            try clear c17
                            try clear c23
                            try clear c23b0
                            try clear c23b1
                            try clear c27
                            try clear c33
                            try clear c33b0
                            try clear c33b1
                            try clear c37
                            try clear c43
                            try clear c43b0
                            try clear c43b1
                            try clear p2
                            obtain ⟨kq, x103_39, rfl, HA, HJ39, HB⟩ := hcut
                            cases kq with
                            | zero => exact absurd HA.out (by simp [ringworklaw25_JournalWrong.j4])
                            | succ kj39 =>
                              have H := HA.out
                              clear HA
                              simp only [ringworklaw25_JournalWrong.j4] at H
                              by_cases c44 : x103_39 = true
                              · subst c44
                                have H1 : (some false) = some r := by rw [if_pos rfl] at H; exact H
                                clear H
                                have H := H1
                                clear H1
                                obtain rfl := Option.some.inj H
                                go_wp2
                                go_ret
                                exact ⟨by first | rfl | (simp [errW_none, errW_some] <;> rfl) | (simp [*, errW_none, errW_some] <;> rfl), by repeat (first | (with_reducible first | exact HB.out | apply below_alloc | apply pw_below_drewN | apply below_drew1) | exact HB.out)⟩
                              · replace c44 := Bool.eq_false_iff.mpr c44
                                subst c44
                                have H1 : ((journal_Keys.f l0 a1).bind fun bt228 => ((ringworkref25_Keys.f kj39 l0 a1).bind fun bt232 => (if bt228.2 = bt232.2 then ((ringworkref03_SameNames.f kj39 bt228.1 bt232.1).bind fun t236 => (ringworklaw25_JournalWrong.j5 kj39 l0 a2 a3 (!t236))) else (ringworklaw25_JournalWrong.j5 kj39 l0 a2 a3 true)))) = some r := by rw [if_neg (show ¬ (false = true) by decide)] at H; exact H
                                clear H
                                have H := H1
                                clear H1
                                replace H := Option.bind_eq_some_iff.mp H
                                obtain ⟨⟨t228, t229⟩, A450, H⟩ := H
                                replace H : ((ringworkref25_Keys.f kj39 l0 a1).bind fun bt232 => (if t229 = bt232.2 then ((ringworkref03_SameNames.f kj39 t228 bt232.1).bind fun t236 => (ringworklaw25_JournalWrong.j5 kj39 l0 a2 a3 (!t236))) else (ringworklaw25_JournalWrong.j5 kj39 l0 a2 a3 true))) = some r := H
                                have A45 := Aside0.mk A450
                                clear A450
                                replace H := Option.bind_eq_some_iff.mp H
                                obtain ⟨⟨t232, t233⟩, A460, H⟩ := H
                                replace H : (if t229 = t233 then ((ringworkref03_SameNames.f kj39 t228 t232).bind fun t236 => (ringworklaw25_JournalWrong.j5 kj39 l0 a2 a3 (!t236))) else (ringworklaw25_JournalWrong.j5 kj39 l0 a2 a3 true)) = some r := H
                                have A46 := Aside0.mk A460
                                clear A460
                                have HC47 := Aside0.mk H
                                clear H
                                go_upto_region 21 with (first | ((with_reducible refine gate_callee (f := 15) rfl ?_); refine goesL_ (some 107) rfl rfl Tryz.func15 (by kernel_rfl) rfl #[.slice A0 l0.length c0, .int .i64 a1] rfl (by (try simp only [List.map_toArray, List.map_cons, List.map_nil]); first | done | rfl | (simp only [List.length_drop, List.length_take]; rfl)) ?_; (with_reducible refine (journal_Keys.calls _ _ l0 a1 t228 t229 _ ?side1 ?side2 A45.out).mono ?_); (case side1 => repeat (first | exact (Kd.C_below HR0.out HB.out) | (with_reducible refine Kd.C_alloc ?_ _) | (with_reducible refine Kd.C_drewN ?_ _) | (with_reducible refine Kd.C_drew ?_))); (case side2 => exact HC0.out); rintro e w48 ⟨v230, rfl, ho0, hb⟩; refine ⟨_, rfl, ?_⟩; have n0_ := Aside0.mk (Kd.R_lower ho0 (below_size (by repeat (first | (with_reducible first | exact HB.out | apply below_alloc | apply pw_below_drewN | apply below_drew1) | exact HB.out)))); have n1_ := Aside0.mk (below_step (by repeat (first | (with_reducible first | exact HB.out | apply below_alloc | apply pw_below_drewN | apply below_drew1) | exact HB.out)) hb); clear HB; have HO231 := n0_; have HB := n1_; clear n0_ n1_; (try clear hb); (try clear hb2); (try clear hk); (try clear hi); (try clear ho0)) | ((with_reducible refine gate_callee (f := 16) rfl ?_); refine goesL_ (some 113) rfl rfl Tryz.func16 (by kernel_rfl) rfl #[.slice A0 l0.length c0, .int .i64 a1] rfl (by (try simp only [List.map_toArray, List.map_cons, List.map_nil]); first | done | rfl | (simp only [List.length_drop, List.length_take]; rfl)) ?_; (with_reducible refine (ringworkref25_Keys.calls kj39 _ _ l0 a1 t232 t233 _ ?side1 ?side2 A46.out).mono ?_); (case side1 => repeat (first | exact (Kd.C_below HR0.out HB.out) | (with_reducible refine Kd.C_alloc ?_ _) | (with_reducible refine Kd.C_drewN ?_ _) | (with_reducible refine Kd.C_drew ?_))); (case side2 => exact HC0.out); rintro e w49 ⟨v234, rfl, ho0, hb⟩; refine ⟨_, rfl, ?_⟩; have n0_ := Aside0.mk (Kd.R_elder' (by (with_reducible repeat (first | apply Kd.R_alloc | apply Kd.R_drewN | apply Kd.R_drew)); exact HO231.out) (Kd.R_base ho0) hb); have n1_ := Aside0.mk (Kd.R_lower (Kd.R_new' ho0 (Kd.R_lt (by (with_reducible repeat (first | apply Kd.R_alloc | apply Kd.R_drewN | apply Kd.R_drew)); exact HO231.out))) (below_size (by repeat (first | (with_reducible first | exact HB.out | apply below_alloc | apply pw_below_drewN | apply below_drew1) | exact HB.out)))); have n2_ := Aside0.mk (below_step (by repeat (first | (with_reducible first | exact HB.out | apply below_alloc | apply pw_below_drewN | apply below_drew1) | exact HB.out)) hb); clear HO231; clear HB; have HO231 := n0_; have HO235 := n1_; have HB := n2_; clear n0_ n1_ n2_; (try clear hb); (try clear hb2); (try clear hk); (try clear hi); (try clear ho0)))
                                (try simp only [Act.put, List.setIfInBounds_toArray, List.set_cons_zero, List.set_cons_succ])
                                go_cut [124] (fun v124 wc => ∃ (kq : Nat) (x124_46 : Bool), v124 = .bool x124_46 ∧ Aside0 (ringworklaw25_JournalWrong.j5 kq l0 a2 a3 x124_46 = some r) ∧ Aside0 (kq ≤ kj39) ∧ Aside0 (Below w.heap.size w wc))
                                case first =>
                                  have H := HC47.out
                                  clear HC47
                                  by_cases c50 : t229 = t233
                                  · rw [if_pos c50] at H
                                    have c50b0 : (t229 == t233) = true := beq_iff_eq.mpr c50
                                    have c50b1 : (t229 != t233) = false := bne_eq_false_iff_eq.mpr c50
                                    clear c50
                                    (first | rw [c50b0] | (simp only [i64_w, i32_w]; rw [c50b0]) | skip)
                                    replace H := Option.bind_eq_some_iff.mp H
                                    obtain ⟨t236, A510, H⟩ := H
                                    replace H : (ringworklaw25_JournalWrong.j5 kj39 l0 a2 a3 (!t236)) = some r := H
                                    have A51 := Aside0.mk A510
                                    clear A510
                                    have H' := Aside0.mk H
                                    clear H
                                    obtain ⟨Ao52, co52, eo52⟩ := Kd.R_slice HO231.out
                                    subst eo52
                                    obtain ⟨Ao53, co53, eo53⟩ := Kd.R_slice HO235.out
                                    subst eo53
                                    go_wp2_with (first | (go_at_call 17; (with_reducible refine (ringworkref03_SameNames.calls kj39 _ _ t228 _ _ t232 t236 _ ?side1 ?side2 ?side3 ?side4 A51.out).mono ?_); (case side1 => repeat (first | exact (Kd.R_reads' HO231.out).2.2 | (with_reducible refine Kd.C_alloc ?_ _) | (with_reducible refine Kd.C_drewN ?_ _) | (with_reducible refine Kd.C_drew ?_))); (case side2 => exact (Kd.R_reads' HO231.out).2.1); (case side3 => repeat (first | exact (Kd.R_reads' HO235.out).2.2 | (with_reducible refine Kd.C_alloc ?_ _) | (with_reducible refine Kd.C_drewN ?_ _) | (with_reducible refine Kd.C_drew ?_))); (case side4 => exact (Kd.R_reads' HO235.out).2.1); rintro e w' ⟨rfl, ⟨nd, rfl⟩⟩))
                                    go_meet
                                    case rel => exact ⟨_, (!t236), (by first | rfl | (simp; done) | (simp [*]; done)), H', ⟨by have := HJ4.out; have := HJ12.out; have := HJ19.out; have := HJ29.out; have := HJ39.out; first | omega | exact Nat.le_refl _⟩, ⟨by repeat (first | (with_reducible first | exact HB.out | apply below_alloc | apply pw_below_drewN | apply below_drew1) | exact HB.out)⟩⟩
                                  · rw [if_neg c50] at H
                                    have c50b0 : (t229 == t233) = false := beq_eq_false_iff_ne.mpr c50
                                    have c50b1 : (t229 != t233) = true := bne_iff_ne.mpr c50
                                    (first | rw [c50b0] | (simp only [i64_w, i32_w]; rw [c50b0]) | skip)
                                    have H' := Aside0.mk H
                                    clear H
                                    go_wp2
                                    go_meet
                                    case rel => exact ⟨_, (true), (by first | rfl | (simp; done) | (simp [*]; done)), H', ⟨by have := HJ4.out; have := HJ12.out; have := HJ19.out; have := HJ29.out; have := HJ39.out; first | omega | exact Nat.le_refl _⟩, ⟨by repeat (first | (with_reducible first | exact HB.out | apply below_alloc | apply pw_below_drewN | apply below_drew1) | exact HB.out)⟩⟩
                                case rest =>
                                  clear HC47
                                  try clear c1
                                  try clear c2
                                  try clear p2
                                  try clear c3
                                  try clear c4
                                  try clear c5
                                  try clear c6
                                  try clear c7
                                  try clear c8
                                  try clear c9
                                  try clear c11
                                  try clear c12
                                  try clear c13
                                  try clear c14
                                  try clear c15
                                  try clear c16
                                  try clear c16b0
                                  try clear c16b1
                                  try clear c17
                                  try clear c23
                                  try clear c23b0
                                  try clear c23b1
                                  try clear c27
                                  try clear c33
                                  try clear c33b0
                                  try clear c33b1
                                  try clear c37
                                  try clear c43
                                  try clear c43b0
                                  try clear c43b1
                                  try clear c44
                                  try clear c50
                                  try clear c50b0
                                  try clear c50b1
                                  try clear p2
                                  obtain ⟨kq, x124_46, rfl, HA, HJ46, HB⟩ := hcut
                                  cases kq with
                                  | zero => exact absurd HA.out (by simp [ringworklaw25_JournalWrong.j5])
                                  | succ kj46 =>
                                    have H := HA.out
                                    clear HA
                                    simp only [ringworklaw25_JournalWrong.j5] at H
                                    by_cases c54 : x124_46 = true
                                    · subst c54
                                      have H1 : (some false) = some r := by rw [if_pos rfl] at H; exact H
                                      clear H
                                      have H := H1
                                      clear H1
                                      obtain rfl := Option.some.inj H
                                      go_wp2
                                      go_ret
                                      exact ⟨by first | rfl | (simp [errW_none, errW_some] <;> rfl) | (simp [*, errW_none, errW_some] <;> rfl), by repeat (first | (with_reducible first | exact HB.out | apply below_alloc | apply pw_below_drewN | apply below_drew1) | exact HB.out)⟩
                                    · replace c54 := Bool.eq_false_iff.mpr c54
                                      subst c54
                                      have H1 : ((journal_Dump.f kj46 l0 a2).bind fun bt237 => ((ringworkref25_DumpAt.f kj46 l0 a2).bind fun bt239 => (if bt237.1 = bt239.1 then (ringworklaw25_JournalWrong.j6 kj46 l0 a3 (bt237.2 != bt239.2)) else (ringworklaw25_JournalWrong.j6 kj46 l0 a3 true)))) = some r := by rw [if_neg (show ¬ (false = true) by decide)] at H; exact H
                                      clear H
                                      have H := H1
                                      clear H1
                                      replace H := Option.bind_eq_some_iff.mp H
                                      obtain ⟨⟨t237, t238⟩, A550, H⟩ := H
                                      replace H : ((ringworkref25_DumpAt.f kj46 l0 a2).bind fun bt239 => (if t237 = bt239.1 then (ringworklaw25_JournalWrong.j6 kj46 l0 a3 (t238 != bt239.2)) else (ringworklaw25_JournalWrong.j6 kj46 l0 a3 true))) = some r := H
                                      have A55 := Aside0.mk A550
                                      clear A550
                                      replace H := Option.bind_eq_some_iff.mp H
                                      obtain ⟨⟨t239, t240⟩, A560, H⟩ := H
                                      replace H : (if t237 = t239 then (ringworklaw25_JournalWrong.j6 kj46 l0 a3 (t238 != t240)) else (ringworklaw25_JournalWrong.j6 kj46 l0 a3 true)) = some r := H
                                      have A56 := Aside0.mk A560
                                      clear A560
                                      have HC57 := Aside0.mk H
                                      clear H
                                      go_upto_region 25 with (first | ((with_reducible refine gate_callee (f := 18) rfl ?_); refine goesL_ (some 128) rfl rfl Tryz.func18 (by kernel_rfl) rfl #[.slice A0 l0.length c0, .string a2] rfl (by (try simp only [List.map_toArray, List.map_cons, List.map_nil]); first | done | rfl | (simp only [List.length_drop, List.length_take]; rfl)) ?_; (with_reducible refine (journal_Dump.calls kj46 _ _ l0 a2 t237 t238 _ ?side1 ?side2 A55.out).mono ?_); (case side1 => repeat (first | exact (Kd.C_below HR0.out HB.out) | (with_reducible refine Kd.C_alloc ?_ _) | (with_reducible refine Kd.C_drewN ?_ _) | (with_reducible refine Kd.C_drew ?_))); (case side2 => exact HC0.out); rintro e w58 ⟨rfl, hb⟩; refine ⟨_, rfl, ?_⟩; have n0_ := Aside0.mk (below_step (by repeat (first | (with_reducible first | exact HB.out | apply below_alloc | apply pw_below_drewN | apply below_drew1) | exact HB.out)) hb); clear HB; have HB := n0_; clear n0_; (try clear hb); (try clear hb2); (try clear hk); (try clear hi)) | ((with_reducible refine gate_callee (f := 19) rfl ?_); refine goesL_ (some 134) rfl rfl Tryz.func19 (by kernel_rfl) rfl #[.slice A0 l0.length c0, .string a2] rfl (by (try simp only [List.map_toArray, List.map_cons, List.map_nil]); first | done | rfl | (simp only [List.length_drop, List.length_take]; rfl)) ?_; (with_reducible refine (ringworkref25_DumpAt.calls kj46 _ _ l0 a2 t239 t240 _ ?side1 ?side2 A56.out).mono ?_); (case side1 => repeat (first | exact (Kd.C_below HR0.out HB.out) | (with_reducible refine Kd.C_alloc ?_ _) | (with_reducible refine Kd.C_drewN ?_ _) | (with_reducible refine Kd.C_drew ?_))); (case side2 => exact HC0.out); rintro e w59 ⟨rfl, hb⟩; refine ⟨_, rfl, ?_⟩; have n0_ := Aside0.mk (below_step (by repeat (first | (with_reducible first | exact HB.out | apply below_alloc | apply pw_below_drewN | apply below_drew1) | exact HB.out)) hb); clear HB; have HB := n0_; clear n0_; (try clear hb); (try clear hb2); (try clear hk); (try clear hi)))
                                      (try simp only [Act.put, List.setIfInBounds_toArray, List.set_cons_zero, List.set_cons_succ])
                                      go_cut [144] (fun v144 wc => ∃ (kq : Nat) (x144_56 : Bool), v144 = .bool x144_56 ∧ Aside0 (ringworklaw25_JournalWrong.j6 kq l0 a3 x144_56 = some r) ∧ Aside0 (kq ≤ kj46) ∧ Aside0 (Below w.heap.size w wc))
                                      case first =>
                                        have H := HC57.out
                                        clear HC57
                                        by_cases c60 : t237 = t239
                                        · rw [if_pos c60] at H
                                          have c60b0 : (t237 == t239) = true := beq_iff_eq.mpr c60
                                          have c60b1 : (t237 != t239) = false := bne_eq_false_iff_eq.mpr c60
                                          clear c60
                                          (first | rw [c60b0] | (simp only [i64_w, i32_w]; rw [c60b0]) | skip)
                                          have H' := Aside0.mk H
                                          clear H
                                          go_wp2
                                          go_meet
                                          case rel => exact ⟨_, ((t238 != t240)), (by first | rfl | (simp; done) | (simp [*]; done)), H', ⟨by have := HJ4.out; have := HJ12.out; have := HJ19.out; have := HJ29.out; have := HJ39.out; have := HJ46.out; first | omega | exact Nat.le_refl _⟩, ⟨by repeat (first | (with_reducible first | exact HB.out | apply below_alloc | apply pw_below_drewN | apply below_drew1) | exact HB.out)⟩⟩
                                        · rw [if_neg c60] at H
                                          have c60b0 : (t237 == t239) = false := beq_eq_false_iff_ne.mpr c60
                                          have c60b1 : (t237 != t239) = true := bne_iff_ne.mpr c60
                                          (first | rw [c60b0] | (simp only [i64_w, i32_w]; rw [c60b0]) | skip)
                                          have H' := Aside0.mk H
                                          clear H
                                          go_wp2
                                          go_meet
                                          case rel => exact ⟨_, (true), (by first | rfl | (simp; done) | (simp [*]; done)), H', ⟨by have := HJ4.out; have := HJ12.out; have := HJ19.out; have := HJ29.out; have := HJ39.out; have := HJ46.out; first | omega | exact Nat.le_refl _⟩, ⟨by repeat (first | (with_reducible first | exact HB.out | apply below_alloc | apply pw_below_drewN | apply below_drew1) | exact HB.out)⟩⟩
                                      case rest =>
                                        clear HC57
                                        try clear c1
                                        try clear c2
                                        try clear p2
                                        try clear c3
                                        try clear c4
                                        try clear c5
                                        try clear c6
                                        try clear c7
                                        try clear c8
                                        try clear c9
                                        try clear c11
                                        try clear c12
                                        try clear c13
                                        try clear c14
                                        try clear c15
                                        try clear c16
                                        try clear c16b0
                                        try clear c16b1
                                        try clear c17
                                        try clear c18
                                        try clear c19
                                        try clear c23
                                        try clear c23b0
                                        try clear c23b1
                                        try clear c27
                                        try clear c33
                                        try clear c33b0
                                        try clear c33b1
                                        try clear c37
                                        try clear c43
                                        try clear c43b0
                                        try clear c43b1
                                        try clear c44
                                        try clear c50
                                        try clear c50b0
                                        try clear c50b1
                                        try clear c54
                                        try clear c60
                                        try clear c60b0
                                        try clear c60b1
                                        try clear p2
                                        obtain ⟨kq, x144_56, rfl, HA, HJ56, HB⟩ := hcut
                                        cases kq with
                                        | zero => exact absurd HA.out (by simp [ringworklaw25_JournalWrong.j6])
                                        | succ kj56 =>
                                          have H := HA.out
                                          clear HA
                                          simp only [ringworklaw25_JournalWrong.j6] at H
                                          by_cases c61 : x144_56 = true
                                          · subst c61
                                            have H1 : (some false) = some r := by rw [if_pos rfl] at H; exact H
                                            clear H
                                            have H := H1
                                            clear H1
                                            obtain rfl := Option.some.inj H
                                            go_wp2
                                            go_ret
                                            exact ⟨by first | rfl | (simp [errW_none, errW_some] <;> rfl) | (simp [*, errW_none, errW_some] <;> rfl), by repeat (first | (with_reducible first | exact HB.out | apply below_alloc | apply pw_below_drewN | apply below_drew1) | exact HB.out)⟩
                                          · replace c61 := Bool.eq_false_iff.mpr c61
                                            subst c61
                                            have H1 : ((journal_Cut.f l0 a3).bind fun bt241 => ((ringworkref25_Cut.f kj56 l0 a3).bind fun bt245 => (if bt241.2 = bt245.2 then ((ringworkref25_SameNotes.f kj56 bt241.1 bt245.1).bind fun t249 => (if t249 = true then ((ringworklaw25_awake.f).bind fun t250 => (some t250)) else (some false))) else (some false)))) = some r := by rw [if_neg (show ¬ (false = true) by decide)] at H; exact H
                                            clear H
                                            have H := H1
                                            clear H1
                                            replace H := Option.bind_eq_some_iff.mp H
                                            obtain ⟨⟨t241, t242⟩, A620, H⟩ := H
                                            replace H : ((ringworkref25_Cut.f kj56 l0 a3).bind fun bt245 => (if t242 = bt245.2 then ((ringworkref25_SameNotes.f kj56 t241 bt245.1).bind fun t249 => (if t249 = true then ((ringworklaw25_awake.f).bind fun t250 => (some t250)) else (some false))) else (some false))) = some r := H
                                            have A62 := Aside0.mk A620
                                            clear A620
                                            replace H := Option.bind_eq_some_iff.mp H
                                            obtain ⟨⟨t245, t246⟩, A630, H⟩ := H
                                            replace H : (if t242 = t246 then ((ringworkref25_SameNotes.f kj56 t241 t245).bind fun t249 => (if t249 = true then ((ringworklaw25_awake.f).bind fun t250 => (some t250)) else (some false))) else (some false)) = some r := H
                                            have A63 := Aside0.mk A630
                                            clear A630
                                            by_cases c64 : t242 = t246
                                            · rw [if_pos c64] at H
                                              have c64b0 : (t242 == t246) = true := beq_iff_eq.mpr c64
                                              have c64b1 : (t242 != t246) = false := bne_eq_false_iff_eq.mpr c64
                                              clear c64
                                              replace H := Option.bind_eq_some_iff.mp H
                                              obtain ⟨t249, A650, H⟩ := H
                                              replace H : (if t249 = true then ((ringworklaw25_awake.f).bind fun t250 => (some t250)) else (some false)) = some r := H
                                              have A65 := Aside0.mk A650
                                              clear A650
                                              by_cases c66 : t249 = true
                                              · subst c66
                                                have H1 : ((ringworklaw25_awake.f).bind fun t250 => (some t250)) = some r := by rw [if_pos rfl] at H; exact H
                                                clear H
                                                have H := H1
                                                clear H1
                                                replace H := Option.bind_eq_some_iff.mp H
                                                obtain ⟨t250, A670, H⟩ := H
                                                replace H : (some t250) = some r := H
                                                have A67 := Aside0.mk A670
                                                clear A670
                                                obtain rfl := Option.some.inj H
                                                go_wp2_with (first | ((with_reducible refine gate_callee (f := 20) rfl ?_); refine goesL_ (some 148) rfl rfl Tryz.func20 (by kernel_rfl) rfl #[.slice A0 l0.length c0, .int .i64 a3] rfl (by (try simp only [List.map_toArray, List.map_cons, List.map_nil]); first | done | rfl | (simp only [List.length_drop, List.length_take]; rfl)) ?_; (with_reducible refine (journal_Cut.calls _ _ l0 a3 t241 t242 _ ?side1 ?side2 A62.out).mono ?_); (case side1 => repeat (first | exact (Kd.C_below HR0.out HB.out) | (with_reducible refine Kd.C_alloc ?_ _) | (with_reducible refine Kd.C_drewN ?_ _) | (with_reducible refine Kd.C_drew ?_))); (case side2 => exact HC0.out); rintro e w68 ⟨v243, rfl, ho0, hb⟩; refine ⟨_, rfl, ?_⟩; have n0_ := Aside0.mk (Kd.R_lower ho0 (below_size (by repeat (first | (with_reducible first | exact HB.out | apply below_alloc | apply pw_below_drewN | apply below_drew1) | exact HB.out)))); have n1_ := Aside0.mk (below_step (by repeat (first | (with_reducible first | exact HB.out | apply below_alloc | apply pw_below_drewN | apply below_drew1) | exact HB.out)) hb); clear HB; have HO244 := n0_; have HB := n1_; clear n0_ n1_; (try clear hb); (try clear hb2); (try clear hk); (try clear hi); (try clear ho0)) | ((with_reducible refine gate_callee (f := 21) rfl ?_); refine goesL_ (some 154) rfl rfl Tryz.func21 (by kernel_rfl) rfl #[.slice A0 l0.length c0, .int .i64 a3] rfl (by (try simp only [List.map_toArray, List.map_cons, List.map_nil]); first | done | rfl | (simp only [List.length_drop, List.length_take]; rfl)) ?_; (with_reducible refine (ringworkref25_Cut.calls kj56 _ _ l0 a3 t245 t246 _ ?side1 ?side2 A63.out).mono ?_); (case side1 => repeat (first | exact (Kd.C_below HR0.out HB.out) | (with_reducible refine Kd.C_alloc ?_ _) | (with_reducible refine Kd.C_drewN ?_ _) | (with_reducible refine Kd.C_drew ?_))); (case side2 => exact HC0.out); rintro e w69 ⟨v247, rfl, ho0, hb⟩; refine ⟨_, rfl, ?_⟩; have n0_ := Aside0.mk (Kd.R_elder' (by (with_reducible repeat (first | apply Kd.R_alloc | apply Kd.R_drewN | apply Kd.R_drew)); exact HO244.out) (Kd.R_base ho0) hb); have n1_ := Aside0.mk (Kd.R_lower (Kd.R_new' ho0 (Kd.R_lt (by (with_reducible repeat (first | apply Kd.R_alloc | apply Kd.R_drewN | apply Kd.R_drew)); exact HO244.out))) (below_size (by repeat (first | (with_reducible first | exact HB.out | apply below_alloc | apply pw_below_drewN | apply below_drew1) | exact HB.out)))); have n2_ := Aside0.mk (below_step (by repeat (first | (with_reducible first | exact HB.out | apply below_alloc | apply pw_below_drewN | apply below_drew1) | exact HB.out)) hb); clear HO244; clear HB; have HO244 := n0_; have HO248 := n1_; have HB := n2_; clear n0_ n1_ n2_; (try clear hb); (try clear hb2); (try clear hk); (try clear hi); (try clear ho0); obtain ⟨Ao70, co70, eo70⟩ := Kd.R_slice HO244.out; subst eo70; obtain ⟨Ao71, co71, eo71⟩ := Kd.R_slice HO248.out; subst eo71) | (go_at_call 22; (with_reducible refine (ringworkref25_SameNotes.calls kj56 _ _ t241 _ _ t245 true _ ?side1 ?side2 ?side3 ?side4 A65.out).mono ?_); (case side1 => repeat (first | exact (Kd.R_reads' HO244.out).2.2 | (with_reducible refine Kd.C_alloc ?_ _) | (with_reducible refine Kd.C_drewN ?_ _) | (with_reducible refine Kd.C_drew ?_))); (case side2 => exact (Kd.R_reads' HO244.out).2.1); (case side3 => repeat (first | exact (Kd.R_reads' HO248.out).2.2 | (with_reducible refine Kd.C_alloc ?_ _) | (with_reducible refine Kd.C_drewN ?_ _) | (with_reducible refine Kd.C_drew ?_))); (case side4 => exact (Kd.R_reads' HO248.out).2.1); rintro e w' ⟨rfl, ⟨nd, rfl⟩⟩) | (go_at_call 5; (with_reducible refine (ringworklaw25_awake.calls  t250 _ A67.out).mono ?_); rintro e w72 ⟨rfl, hb⟩; have n0_ := Aside0.mk (Kd.R_below (by (with_reducible repeat (first | apply Kd.R_alloc | apply Kd.R_drewN | apply Kd.R_drew)); exact HO244.out) hb); have n1_ := Aside0.mk (Kd.R_below (by (with_reducible repeat (first | apply Kd.R_alloc | apply Kd.R_drewN | apply Kd.R_drew)); exact HO248.out) hb); have n2_ := Aside0.mk (below_step (by repeat (first | (with_reducible first | exact HB.out | apply below_alloc | apply pw_below_drewN | apply below_drew1) | exact HB.out)) hb); clear HO244; clear HO248; clear HB; have HO244 := n0_; have HO248 := n1_; have HB := n2_; clear n0_ n1_ n2_; (try clear hb); (try clear hb2); (try clear hk); (try clear hi)))
                                                go_ret
                                                exact ⟨by first | rfl | (simp [errW_none, errW_some] <;> rfl) | (simp [*, errW_none, errW_some] <;> rfl), by repeat (first | (with_reducible first | exact HB.out | apply below_alloc | apply pw_below_drewN | apply below_drew1) | exact HB.out)⟩
                                              · replace c66 := Bool.eq_false_iff.mpr c66
                                                subst c66
                                                have H1 : (some false) = some r := by rw [if_neg (show ¬ (false = true) by decide)] at H; exact H
                                                clear H
                                                have H := H1
                                                clear H1
                                                obtain rfl := Option.some.inj H
                                                go_wp2_with (first | ((with_reducible refine gate_callee (f := 20) rfl ?_); refine goesL_ (some 148) rfl rfl Tryz.func20 (by kernel_rfl) rfl #[.slice A0 l0.length c0, .int .i64 a3] rfl (by (try simp only [List.map_toArray, List.map_cons, List.map_nil]); first | done | rfl | (simp only [List.length_drop, List.length_take]; rfl)) ?_; (with_reducible refine (journal_Cut.calls _ _ l0 a3 t241 t242 _ ?side1 ?side2 A62.out).mono ?_); (case side1 => repeat (first | exact (Kd.C_below HR0.out HB.out) | (with_reducible refine Kd.C_alloc ?_ _) | (with_reducible refine Kd.C_drewN ?_ _) | (with_reducible refine Kd.C_drew ?_))); (case side2 => exact HC0.out); rintro e w73 ⟨v243, rfl, ho0, hb⟩; refine ⟨_, rfl, ?_⟩; have n0_ := Aside0.mk (Kd.R_lower ho0 (below_size (by repeat (first | (with_reducible first | exact HB.out | apply below_alloc | apply pw_below_drewN | apply below_drew1) | exact HB.out)))); have n1_ := Aside0.mk (below_step (by repeat (first | (with_reducible first | exact HB.out | apply below_alloc | apply pw_below_drewN | apply below_drew1) | exact HB.out)) hb); clear HB; have HO244 := n0_; have HB := n1_; clear n0_ n1_; (try clear hb); (try clear hb2); (try clear hk); (try clear hi); (try clear ho0)) | ((with_reducible refine gate_callee (f := 21) rfl ?_); refine goesL_ (some 154) rfl rfl Tryz.func21 (by kernel_rfl) rfl #[.slice A0 l0.length c0, .int .i64 a3] rfl (by (try simp only [List.map_toArray, List.map_cons, List.map_nil]); first | done | rfl | (simp only [List.length_drop, List.length_take]; rfl)) ?_; (with_reducible refine (ringworkref25_Cut.calls kj56 _ _ l0 a3 t245 t246 _ ?side1 ?side2 A63.out).mono ?_); (case side1 => repeat (first | exact (Kd.C_below HR0.out HB.out) | (with_reducible refine Kd.C_alloc ?_ _) | (with_reducible refine Kd.C_drewN ?_ _) | (with_reducible refine Kd.C_drew ?_))); (case side2 => exact HC0.out); rintro e w74 ⟨v247, rfl, ho0, hb⟩; refine ⟨_, rfl, ?_⟩; have n0_ := Aside0.mk (Kd.R_elder' (by (with_reducible repeat (first | apply Kd.R_alloc | apply Kd.R_drewN | apply Kd.R_drew)); exact HO244.out) (Kd.R_base ho0) hb); have n1_ := Aside0.mk (Kd.R_lower (Kd.R_new' ho0 (Kd.R_lt (by (with_reducible repeat (first | apply Kd.R_alloc | apply Kd.R_drewN | apply Kd.R_drew)); exact HO244.out))) (below_size (by repeat (first | (with_reducible first | exact HB.out | apply below_alloc | apply pw_below_drewN | apply below_drew1) | exact HB.out)))); have n2_ := Aside0.mk (below_step (by repeat (first | (with_reducible first | exact HB.out | apply below_alloc | apply pw_below_drewN | apply below_drew1) | exact HB.out)) hb); clear HO244; clear HB; have HO244 := n0_; have HO248 := n1_; have HB := n2_; clear n0_ n1_ n2_; (try clear hb); (try clear hb2); (try clear hk); (try clear hi); (try clear ho0); obtain ⟨Ao75, co75, eo75⟩ := Kd.R_slice HO244.out; subst eo75; obtain ⟨Ao76, co76, eo76⟩ := Kd.R_slice HO248.out; subst eo76) | (go_at_call 22; (with_reducible refine (ringworkref25_SameNotes.calls kj56 _ _ t241 _ _ t245 false _ ?side1 ?side2 ?side3 ?side4 A65.out).mono ?_); (case side1 => repeat (first | exact (Kd.R_reads' HO244.out).2.2 | (with_reducible refine Kd.C_alloc ?_ _) | (with_reducible refine Kd.C_drewN ?_ _) | (with_reducible refine Kd.C_drew ?_))); (case side2 => exact (Kd.R_reads' HO244.out).2.1); (case side3 => repeat (first | exact (Kd.R_reads' HO248.out).2.2 | (with_reducible refine Kd.C_alloc ?_ _) | (with_reducible refine Kd.C_drewN ?_ _) | (with_reducible refine Kd.C_drew ?_))); (case side4 => exact (Kd.R_reads' HO248.out).2.1); rintro e w' ⟨rfl, ⟨nd, rfl⟩⟩))
                                                go_ret
                                                exact ⟨by first | rfl | (simp [errW_none, errW_some] <;> rfl) | (simp [*, errW_none, errW_some] <;> rfl), by repeat (first | (with_reducible first | exact HB.out | apply below_alloc | apply pw_below_drewN | apply below_drew1) | exact HB.out)⟩
                                            · rw [if_neg c64] at H
                                              have c64b0 : (t242 == t246) = false := beq_eq_false_iff_ne.mpr c64
                                              have c64b1 : (t242 != t246) = true := bne_iff_ne.mpr c64
                                              obtain rfl := Option.some.inj H
                                              go_wp2_with (first | ((with_reducible refine gate_callee (f := 20) rfl ?_); refine goesL_ (some 148) rfl rfl Tryz.func20 (by kernel_rfl) rfl #[.slice A0 l0.length c0, .int .i64 a3] rfl (by (try simp only [List.map_toArray, List.map_cons, List.map_nil]); first | done | rfl | (simp only [List.length_drop, List.length_take]; rfl)) ?_; (with_reducible refine (journal_Cut.calls _ _ l0 a3 t241 t242 _ ?side1 ?side2 A62.out).mono ?_); (case side1 => repeat (first | exact (Kd.C_below HR0.out HB.out) | (with_reducible refine Kd.C_alloc ?_ _) | (with_reducible refine Kd.C_drewN ?_ _) | (with_reducible refine Kd.C_drew ?_))); (case side2 => exact HC0.out); rintro e w77 ⟨v243, rfl, ho0, hb⟩; refine ⟨_, rfl, ?_⟩; have n0_ := Aside0.mk (Kd.R_lower ho0 (below_size (by repeat (first | (with_reducible first | exact HB.out | apply below_alloc | apply pw_below_drewN | apply below_drew1) | exact HB.out)))); have n1_ := Aside0.mk (below_step (by repeat (first | (with_reducible first | exact HB.out | apply below_alloc | apply pw_below_drewN | apply below_drew1) | exact HB.out)) hb); clear HB; have HO244 := n0_; have HB := n1_; clear n0_ n1_; (try clear hb); (try clear hb2); (try clear hk); (try clear hi); (try clear ho0)) | ((with_reducible refine gate_callee (f := 21) rfl ?_); refine goesL_ (some 154) rfl rfl Tryz.func21 (by kernel_rfl) rfl #[.slice A0 l0.length c0, .int .i64 a3] rfl (by (try simp only [List.map_toArray, List.map_cons, List.map_nil]); first | done | rfl | (simp only [List.length_drop, List.length_take]; rfl)) ?_; (with_reducible refine (ringworkref25_Cut.calls kj56 _ _ l0 a3 t245 t246 _ ?side1 ?side2 A63.out).mono ?_); (case side1 => repeat (first | exact (Kd.C_below HR0.out HB.out) | (with_reducible refine Kd.C_alloc ?_ _) | (with_reducible refine Kd.C_drewN ?_ _) | (with_reducible refine Kd.C_drew ?_))); (case side2 => exact HC0.out); rintro e w78 ⟨v247, rfl, ho0, hb⟩; refine ⟨_, rfl, ?_⟩; have n0_ := Aside0.mk (Kd.R_elder' (by (with_reducible repeat (first | apply Kd.R_alloc | apply Kd.R_drewN | apply Kd.R_drew)); exact HO244.out) (Kd.R_base ho0) hb); have n1_ := Aside0.mk (Kd.R_lower (Kd.R_new' ho0 (Kd.R_lt (by (with_reducible repeat (first | apply Kd.R_alloc | apply Kd.R_drewN | apply Kd.R_drew)); exact HO244.out))) (below_size (by repeat (first | (with_reducible first | exact HB.out | apply below_alloc | apply pw_below_drewN | apply below_drew1) | exact HB.out)))); have n2_ := Aside0.mk (below_step (by repeat (first | (with_reducible first | exact HB.out | apply below_alloc | apply pw_below_drewN | apply below_drew1) | exact HB.out)) hb); clear HO244; clear HB; have HO244 := n0_; have HO248 := n1_; have HB := n2_; clear n0_ n1_ n2_; (try clear hb); (try clear hb2); (try clear hk); (try clear hi); (try clear ho0)))
                                              go_ret
                                              exact ⟨by first | rfl | (simp [errW_none, errW_some] <;> rfl) | (simp [*, errW_none, errW_some] <;> rfl), by repeat (first | (with_reducible first | exact HB.out | apply below_alloc | apply pw_below_drewN | apply below_drew1) | exact HB.out)⟩

end Go.Proofs.YteblpjnkinghoaaGreat.J
/- JournalWrong holds of every input, in plain words. -/
namespace Go.Proofs.YteblpjnkinghoaaGreat.J
open Go.RowKit Go.Proofs.YteblpjnkinghoaaGreatW.PrintWords
/-! ### A list is the same as itself -/
theorem same_ints_from (a : List Int) (hl : a.length ≤ 9223372036854775807) : ∀ (d i : Nat), d = a.length - i → i ≤ a.length → Ev (fun k => ringworkref10_SameInts.l0 k a a (i : Int)) true
  | 0, i, hd, hi => by
    have : i = a.length := by omega
    subst this
    exact Ev.step (fun k => by rw [ringworkref10_SameInts.l0, if_neg (by omega)]) (Ev.val _)
  | d + 1, i, hd, hi => by
    have hlt : i < a.length := by omega
    refine Ev.step (fun k => by rw [ringworkref10_SameInts.l0, if_pos (by omega), if_pos (by omega), if_pos (by omega), if_pos rfl]) ?_
    rw [wrap_next hlt hl]
    exact same_ints_from a hl d (i + 1) (by omega) (by omega)
theorem same_ints (a : List Int) (hl : a.length ≤ 9223372036854775807) : Ev (fun k => ringworkref10_SameInts.f k a a) true := by
  unfold ringworkref10_SameInts.f
  simp only [if_true]
  exact same_ints_from a hl a.length 0 (by omega) (by omega)
theorem same_names_from (a : List ByteArray) (hl : a.length ≤ 9223372036854775807) : ∀ (d i : Nat), d = a.length - i → i ≤ a.length → Ev (fun k => ringworkref03_SameNames.l0 k a a (i : Int)) true
  | 0, i, hd, hi => by
    have : i = a.length := by omega
    subst this
    exact Ev.step (fun k => by rw [ringworkref03_SameNames.l0, if_neg (by omega)]) (Ev.val _)
  | d + 1, i, hd, hi => by
    have hlt : i < a.length := by omega
    refine Ev.step (fun k => by rw [ringworkref03_SameNames.l0, if_pos (by omega), if_pos (by omega), if_pos (by omega), if_pos rfl]) ?_
    rw [wrap_next hlt hl]
    exact same_names_from a hl d (i + 1) (by omega) (by omega)
theorem same_names (a : List ByteArray) (hl : a.length ≤ 9223372036854775807) : Ev (fun k => ringworkref03_SameNames.f k a a) true := by
  unfold ringworkref03_SameNames.f
  simp only [if_true]
  exact same_names_from a hl a.length 0 (by omega) (by omega)
theorem same_notes_from (a : List S43) (hl : a.length ≤ 9223372036854775807) : ∀ (d i : Nat), d = a.length - i → i ≤ a.length → Ev (fun k => ringworkref25_SameNotes.l0 k a a (i : Int)) true
  | 0, i, hd, hi => by
    have : i = a.length := by omega
    subst this
    exact Ev.step (fun k => by rw [ringworkref25_SameNotes.l0, if_neg (by omega)]) (Ev.val _)
  | d + 1, i, hd, hi => by
    have hlt : i < a.length := by omega
    refine Ev.step (fun k => by rw [ringworkref25_SameNotes.l0, if_pos (by omega), if_pos (by omega), if_pos (by omega), if_neg (by simp)]) ?_
    rw [wrap_next hlt hl]
    exact same_notes_from a hl d (i + 1) (by omega) (by omega)
theorem same_notes (a : List S43) (hl : a.length ≤ 9223372036854775807) : Ev (fun k => ringworkref25_SameNotes.f k a a) true := by
  unfold ringworkref25_SameNotes.f
  simp only [if_true]
  exact same_notes_from a hl a.length 0 (by omega) (by omega)
/-! ### Open and Ended -/
/-- The units from one on up to 1000 of which p holds. -/
def unitsUp (p : Int → Bool) : Nat → Nat → List Int
  | 0, _ => []
  | d + 1, u => if p u = true then (u : Int) :: unitsUp p d (u + 1) else unitsUp p d (u + 1)
theorem unitsUp_mem (p : Int → Bool) (x : Int) : ∀ (d u : Nat), x ∈ unitsUp p d u ↔ (u : Int) ≤ x ∧ x < u + d ∧ p x = true
  | 0, u => by simp [unitsUp]; omega
  | d + 1, u => by
    unfold unitsUp
    have ih := unitsUp_mem p x d (u + 1)
    by_cases hx : x = u
    · subst hx
      by_cases hp : p (u : Int) = true
      · rw [if_pos hp]; simp [hp]; omega
      · rw [if_neg hp, ih]; simp [hp]
    · split
      · rw [List.mem_cons, ih]
        constructor
        · rintro (h | h)
          · exact absurd h hx
          · exact ⟨by omega, by omega, h.2.2⟩
        · intro h; exact .inr ⟨by omega, by omega, h.2.2⟩
      · rw [ih]
        exact ⟨fun h => ⟨by omega, by omega, h.2.2⟩, fun h => ⟨by omega, by omega, h.2.2⟩⟩
theorem unitsUp_lt (p : Int → Bool) : ∀ (d u : Nat), (unitsUp p d u).Pairwise (· < ·)
  | 0, _ => List.Pairwise.nil
  | d + 1, u => by
    unfold unitsUp
    split
    · refine List.pairwise_cons.2 ⟨fun x hx => ?_, unitsUp_lt p d (u + 1)⟩
      have := (unitsUp_mem p x d (u + 1)).1 hx
      omega
    · exact unitsUp_lt p d (u + 1)
theorem units_eq {p : Int → Bool} {l : List S43} (h : ∀ u, p u = true → (1 ≤ u ∧ u ≤ 1000) ∧ ∃ n ∈ l, n.f0 ≠ 6 ∧ n.f1 = u) : unitsUp p 1000 1 = unitsOf p l :=
  lt_ext (unitsUp_lt p 1000 1) (unitsOf_lt p l) (fun x => by
    rw [unitsUp_mem, unitsOf_mem]
    exact ⟨fun hx => ⟨hx.2.2, (h x hx.2.2).2⟩, fun hx => ⟨by have := (h x hx.1).1; omega, by have := (h x hx.1).1; omega, hx.1⟩⟩)
theorem since_has (u : Int) : ∀ (l : List S43) (i : Nat) (st : Int × Bool), (sinceFrom u l i st).2 = true → st.2 = true ∨ ∃ n ∈ l, n.f0 ≠ 6 ∧ n.f1 = u
  | [], i, st, h => .inl h
  | n :: l, i, st, h => by
    rw [sinceFrom] at h
    rcases since_has u l (i + 1) _ h with hs | ⟨m, hm, h2⟩
    · unfold sinceStep at hs
      by_cases hu : n.f1 = u
      · rw [if_pos hu] at hs
        by_cases h6 : n.f0 = 6
        · rw [if_pos h6] at hs; exact .inl hs
        · exact .inr ⟨n, List.mem_cons_self, h6, hu⟩
      · rw [if_neg hu] at hs; exact .inl hs
    · exact .inr ⟨m, List.mem_cons_of_mem _ hm, h2⟩
theorem open_from (l : List S43) (hl : l.length ≤ 9223372036854775807) : ∀ (d u : Nat), u + d = 1001 → ∀ out : List Int, out.length ≤ u →
    Ev (fun k => ringworkref25_Open.l0 k l out (u : Int)) (out ++ unitsUp (fun u => (sinceV l u).2) d u, (0 : Int))
  | 0, u, hu, out, ho => Ev.step (fun k => by rw [ringworkref25_Open.l0, if_neg (by omega)]) (Ev.of fun k => by rw [unitsUp, List.append_nil])
  | d + 1, u, hu, out, ho => by
    have hw : wrap64 ((u : Int) + 1) = ((u + 1 : Nat) : Int) := by unfold wrap64; omega
    have hs := ref_since l l.length (u : Int) (Nat.le_refl _) hl
    rw [List.take_length] at hs
    refine Ev.step (fun k => by rw [ringworkref25_Open.l0, if_pos (by omega)]) (Ev.bind hs ?_)
    unfold unitsUp
    cases h2 : (sinceV l (u : Int)).2 with
    | true =>
      have hin := since_in h2
      have ih := open_from l hl d (u + 1) (by omega) (out ++ [(u : Int)]) (by simp; omega)
      rw [← hw, List.append_assoc] at ih
      rw [show atI (sinceV l (u : Int)) = (sinceV l (u : Int)).1 by unfold atI; rw [if_pos h2]]
      simp only [if_pos (show (sinceV l (u : Int)).1 ≥ 0 from hin.1), if_pos (show out.length < 17592186044416 by omega), if_true]
      exact ih
    | false =>
      have ih := open_from l hl d (u + 1) (by omega) out (by omega)
      rw [← hw] at ih
      rw [show atI (sinceV l (u : Int)) = -1 by unfold atI; rw [if_neg (by rw [h2]; decide)]]
      simp only [if_neg (show ¬ (-1 : Int) ≥ 0 by decide), if_neg (show ¬ (false = true) by decide)]
      exact ih
/-- The two programs' Open are one. -/
theorem ref_Open (l : List S43) (hl : l.length ≤ 9223372036854775807) : ∃ r : List Int × Int, journal_Open.f l = some r ∧ Ev (fun k => ringworkref25_Open.f k l) r ∧ r.1.length ≤ l.length := by
  obtain ⟨he, hv⟩ := right_cases l
  unfold journal_Open.f ringworkref25_Open.f
  rw [he]
  simp only [Option.bind_some]
  by_cases h0 : rightN l = 0
  · have hvm := List.all_eq_true.1 (hv (by omega)).2
    rw [if_pos h0]
    refine ⟨_, rfl, Ev.bind (ref_right l hl) ?_, unitsOf_len _ _⟩
    simp only [if_pos h0]
    have := open_from l hl 1000 1 (by omega) [] (by simp)
    rw [List.nil_append, units_eq (l := l) (p := fun u => (sinceV l u).2) (fun u hu => ⟨since_unit u l 0 (0, false) (fun h => by cases h) hvm hu, (since_has u l 0 (0, false) hu).resolve_left (fun h => by cases h)⟩)] at this
    exact this
  · rw [if_neg h0]
    refine ⟨_, rfl, Ev.bind (ref_right l hl) ?_, Nat.zero_le _⟩
    simp only [if_neg h0]
    exact Ev.val _
theorem ended_found (l : List S43) (hl : l.length ≤ 9223372036854775807) (u : Int) (out : List Int) (v : List Int × Int) : ∀ (d i : Nat), d = l.length - i → i ≤ l.length → ∀ found : Bool,
    Ev (fun k => if (found || (l.drop i).any (endB u)) = true then (if out.length < 17592186044416 then ringworkref25_Ended.l0 k l (out ++ [u]) (wrap64 (u + 1)) else none) else ringworkref25_Ended.l0 k l out (wrap64 (u + 1))) v →
    Ev (fun k => ringworkref25_Ended.l1 k l out u found (i : Int)) v
  | 0, i, hd, hi, found, h => by
    have : i = l.length := by omega
    subst this
    rw [List.drop_length, List.any_nil, Bool.or_false] at h
    exact Ev.step (fun k => by rw [ringworkref25_Ended.l1, if_neg (by omega)]) h
  | d + 1, i, hd, hi, found, h => by
    have hlt : i < l.length := by omega
    have next := ended_found l hl u out v d (i + 1) (by omega) (by omega)
    rw [← wrap_next hlt hl] at next
    rw [drop_rd hlt, List.any_cons] at h
    refine Ev.step (fun k => by rw [ringworkref25_Ended.l1, if_pos (by omega)]) ?_
    cases found with
    | true =>
      simp only [if_true]
      exact next true (by rw [Bool.true_or] at h ⊢; exact h)
    | false =>
      simp only [if_neg (show ¬ (false = true) by decide), if_pos (show (0 : Int) ≤ (i : Int) by omega)]
      generalize rd_T43 l (i : Int) = n at h ⊢
      by_cases h5 : n.f0 = 5
      · simp only [if_pos h5]
        refine next _ ?_
        rw [Bool.false_or] at h
        have e : endB u n = (n.f1 == u) := by unfold endB; rw [Bool.eq_iff_iff]; simp [h5]
        rw [e] at h
        exact h
      · simp only [if_neg h5]
        refine next _ ?_
        rw [Bool.false_or] at h
        have e : endB u n = false := decide_eq_false (fun hh => h5 hh.2)
        rw [e] at h
        exact h
theorem ended_from (l : List S43) (hl : l.length ≤ 9223372036854775807) : ∀ (d u : Nat), u + d = 1001 → ∀ out : List Int, out.length ≤ u →
    Ev (fun k => ringworkref25_Ended.l0 k l out (u : Int)) (out ++ unitsUp (fun u => l.any (endB u)) d u, (0 : Int))
  | 0, u, hu, out, ho => Ev.step (fun k => by rw [ringworkref25_Ended.l0, if_neg (by omega)]) (Ev.of fun k => by rw [unitsUp, List.append_nil])
  | d + 1, u, hu, out, ho => by
    have hw : wrap64 ((u : Int) + 1) = ((u + 1 : Nat) : Int) := by unfold wrap64; omega
    refine Ev.step (fun k => by rw [ringworkref25_Ended.l0, if_pos (by omega)]) ?_
    refine ended_found l hl (u : Int) out _ l.length 0 (by omega) (by omega) false ?_
    rw [List.drop_zero, Bool.false_or, hw]
    unfold unitsUp
    by_cases h2 : l.any (endB (u : Int)) = true
    · simp only [if_pos h2, if_pos (show out.length < 17592186044416 by omega)]
      have ih := ended_from l hl d (u + 1) (by omega) (out ++ [(u : Int)]) (by simp; omega)
      rw [List.append_assoc] at ih
      exact ih
    · simp only [if_neg h2]
      exact ended_from l hl d (u + 1) (by omega) out (by omega)
theorem ended_unit {n : S43} (hv : vld n = true) (hf : n.f0 = 5) : 1 ≤ n.f1 ∧ n.f1 ≤ 1000 := by
  unfold vld journal_Valid.f at hv
  rw [if_neg (by omega), if_neg (by omega), if_neg (by omega), if_neg (by omega)] at hv
  unfold journal_plain.f journal_unit.f at hv
  by_cases a1 : 1 ≤ n.f1 <;> by_cases a2 : n.f1 ≤ 1000 <;> simp [a1, a2] at hv ⊢
/-- The two programs' Ended are one. -/
theorem ref_Ended (l : List S43) (hl : l.length ≤ 9223372036854775807) : ∃ r : List Int × Int, journal_Ended.f l = some r ∧ Ev (fun k => ringworkref25_Ended.f k l) r ∧ r.1.length ≤ l.length := by
  obtain ⟨he, hv⟩ := right_cases l
  unfold journal_Ended.f ringworkref25_Ended.f
  rw [he]
  simp only [Option.bind_some]
  by_cases h0 : rightN l = 0
  · have hvm := List.all_eq_true.1 (hv (by omega)).2
    rw [if_pos h0]
    refine ⟨_, rfl, Ev.bind (ref_right l hl) ?_, unitsOf_len _ _⟩
    simp only [if_pos h0]
    have := ended_from l hl 1000 1 (by omega) [] (by simp)
    rw [List.nil_append, units_eq (l := l) (fun u hu => by
      obtain ⟨n, hn, hc⟩ := List.any_eq_true.1 hu
      have hc := of_decide_eq_true hc
      refine ⟨by rw [← hc.1]; exact ended_unit (hvm n hn) hc.2, n, hn, by omega, hc.1⟩)] at this
    exact this
  · rw [if_neg h0]
    refine ⟨_, rfl, Ev.bind (ref_right l hl) ?_, Nat.zero_le _⟩
    simp only [if_neg h0]
    exact Ev.val _
/-! ### Quiet, Dump and Cut -/
theorem quiet_ev (l : List S43) (u : Int) (hl : l.length ≤ 9223372036854775807) : Ev (fun k => journal_Quiet.f k l u) (askedV l u) := by
  obtain ⟨he, hv⟩ := right_cases l
  have ha := asked_all l u (fun _ => hl) he
  unfold journal_Quiet.f
  exact Ev.bind (Ev.mono (journal_asked.mono l u) ha) (Ev.val _)
theorem dump_same (l : List S43) (name : ByteArray) : ∀ (k : Nat) (i : Int), journal_Dump.l0 k l name i = ringworkref25_DumpAt.l0 k l name i
  | 0, _ => rfl
  | k + 1, i => by rw [journal_Dump.l0, ringworkref25_DumpAt.l0, dump_same l name k]
theorem dump_from (l : List S43) (name : ByteArray) (hl : l.length ≤ 9223372036854775807) : ∀ n : Nat, n ≤ l.length → ∃ r, Ev (fun k => journal_Dump.l0 k l name ((n : Int) - 1)) r
  | 0, _ => ⟨_, Ev.step (fun k => by rw [journal_Dump.l0, if_neg (by omega)]) (Ev.val _)⟩
  | n + 1, hn => by
    obtain ⟨r, hr⟩ := dump_from l name hl n (by omega)
    have hw : wrap64 ((((n + 1 : Nat) : Int) - 1) - 1) = (n : Int) - 1 := by unfold wrap64; omega
    by_cases h6 : (rd_T43 l (((n + 1 : Nat) : Int) - 1)).f0 = 6 ∧ (rd_T43 l (((n + 1 : Nat) : Int) - 1)).f4.toList = name.toList
    · exact ⟨_, Ev.step (fun k => by rw [journal_Dump.l0, if_pos (by omega), if_pos (by omega), if_pos (by omega), if_pos h6.1, if_pos h6.2]) (Ev.val _)⟩
    · refine ⟨r, Ev.step (body := fun k => journal_Dump.l0 k l name ((n : Int) - 1)) (fun k => ?_) hr⟩
      rw [journal_Dump.l0, if_pos (by omega), if_pos (by omega), if_pos (by omega), hw]
      by_cases h1 : (rd_T43 l (((n + 1 : Nat) : Int) - 1)).f0 = 6
      · rw [if_pos h1, if_neg (fun h => h6 ⟨h1, h⟩)]
      · rw [if_neg h1]
theorem wrap_back {n : Nat} (h : n ≤ 9223372036854775807) : wrap64 ((n : Int) - 1) = (n : Int) - 1 := by unfold wrap64; omega
theorem ref_Dump (l : List S43) (name : ByteArray) (hl : l.length ≤ 9223372036854775807) : ∃ r, Ev (fun k => journal_Dump.f k l name) r ∧ Ev (fun k => ringworkref25_DumpAt.f k l name) r := by
  obtain ⟨r, hr⟩ := dump_from l name hl l.length (Nat.le_refl _)
  unfold journal_Dump.f ringworkref25_DumpAt.f journal_valid.f
  cases hv : (decide (l.length ≤ 1000) && l.all vld) with
  | true =>
    refine ⟨r, ?_, ?_⟩
    · simp only [Option.bind_some, if_true, wrap_back hl]; exact hr
    · refine Ev.bind (ref_notes l hl) ?_
      rw [hv]
      simp only [if_true, wrap_back hl]
      exact Ev.congr hr (fun k => (dump_same l name k _).symm)
  | false =>
    refine ⟨(0, 1), Ev.val _, ?_⟩
    refine Ev.bind (ref_notes l hl) ?_
    rw [hv]
    exact Ev.val _
theorem ref_Cut (l : List S43) (n : Int) (hl : l.length ≤ 9223372036854775807) : ∃ r, journal_Cut.f l n = some r ∧ Ev (fun k => ringworkref25_Cut.f k l n) r ∧ r.1.length ≤ l.length := by
  unfold journal_Cut.f ringworkref25_Cut.f
  by_cases hv : l.length ≤ 1000 ∧ l.all vld = true
  · have hb : (decide (l.length ≤ 1000) && l.all vld) = true := by rw [decide_eq_true hv.1, hv.2]; rfl
    rw [if_pos hv]
    by_cases hr : n < 0 ∨ (l.length : Int) < n
    · rw [if_pos hr]
      refine ⟨_, rfl, Ev.bind (ref_notes l hl) ?_, Nat.zero_le _⟩
      rw [hb]
      simp only [if_true]
      by_cases h1 : n < 0
      · simp only [if_pos h1]; exact Ev.val _
      · simp only [if_neg h1, if_pos (show n > (l.length : Int) by omega)]; exact Ev.val _
    · rw [if_neg hr]
      refine ⟨_, rfl, Ev.bind (ref_notes l hl) ?_, by show (l.take n.toNat).length ≤ _; rw [List.length_take]; omega⟩
      rw [hb]
      have hv1 := hv.1
      simp only [if_true, if_neg (show ¬ n < 0 by omega), if_neg (show ¬ n > (l.length : Int) by omega), Option.bind_some, if_pos (show 0 ≤ n by omega), if_pos (show n ≤ (l.length : Int) by omega)]
      rw [if_pos (by simp only [List.length_nil, List.length_take]; omega), List.nil_append]
      exact Ev.val _
  · have hb : (decide (l.length ≤ 1000) && l.all vld) = false := by rw [Bool.eq_false_iff]; intro h; rw [Bool.and_eq_true, decide_eq_true_eq] at h; exact hv h
    rw [if_neg hv]
    refine ⟨_, rfl, Ev.bind (ref_notes l hl) ?_, Nat.zero_le _⟩
    rw [hb]
    exact Ev.val _
theorem wrong_law (l : List S43) (u : Int) (name : ByteArray) (n : Int) (hl : l.length ≤ 9223372036854775807) : Ev (fun k => ringworklaw25_JournalWrong.f k l u name n) true := by
  unfold ringworklaw25_JournalWrong.f
  have hawake : Ev (fun k => ringworklaw25_JournalWrong.j0 k l u name n true) true := Ev.step (fun k => by rw [ringworklaw25_JournalWrong.j0, if_pos rfl, awake_true]; rfl) (Ev.val _)
  obtain ⟨b1, h1, g1⟩ := notes_guard l hl
  refine Ev.bind h1 ?_
  cases b1 with
  | false => exact hawake
  | true =>
    have g1 := g1 rfl
    simp only [if_true]
    by_cases hz : (name.size : Int) > 100
    · rw [decide_eq_true hz]; exact hawake
    · rw [decide_eq_false hz]
      obtain ⟨rw_, hw1, hw2⟩ := ref_Wrong l hl
      obtain ⟨ro, ho1, ho2, ho3⟩ := ref_Open l hl
      obtain ⟨re, he1, he2, he3⟩ := ref_Ended l hl
      have hq1 := quiet_ev l u hl
      have hq2 := ref_QuietAt l u hl
      obtain ⟨rk, hk1, hk2, hk3⟩ := ref_Keys l u (by omega)
      obtain ⟨rd_, hd1, hd2⟩ := ref_Dump l name hl
      obtain ⟨rc, hc1, hc2, hc3⟩ := ref_Cut l n hl
      have j6 : Ev (fun k => ringworklaw25_JournalWrong.j6 k l n false) true := by
        refine Ev.step (fun k => by rw [ringworklaw25_JournalWrong.j6, if_neg (by decide), hc1]) ?_
        simp only [Option.bind_some]
        refine Ev.bind hc2 ?_
        simp only [if_true]
        refine Ev.bind (same_notes rc.1 (by omega)) ?_
        simp only [if_true, awake_true]
        exact Ev.val _
      have j5 : Ev (fun k => ringworklaw25_JournalWrong.j5 k l name n false) true := by
        refine Ev.step (fun k => by rw [ringworklaw25_JournalWrong.j5, if_neg (by decide)]) ?_
        refine Ev.bind hd1 (Ev.bind hd2 ?_)
        simp only [if_true, bne_self_eq_false]
        exact j6
      have j4 : Ev (fun k => ringworklaw25_JournalWrong.j4 k l u name n false) true := by
        refine Ev.step (fun k => by rw [ringworklaw25_JournalWrong.j4, if_neg (by decide), hk1]) ?_
        simp only [Option.bind_some]
        refine Ev.bind hk2 ?_
        simp only [if_true]
        exact Ev.bind (same_names rk.1 (by omega)) j5
      have j3 : Ev (fun k => ringworklaw25_JournalWrong.j3 k l u name n false) true := by
        refine Ev.step (fun k => by rw [ringworklaw25_JournalWrong.j3, if_neg (by decide)]) ?_
        refine Ev.bind hq1 (Ev.bind hq2 ?_)
        simp only [if_true, bne_self_eq_false]
        exact j4
      have j2 : Ev (fun k => ringworklaw25_JournalWrong.j2 k l u name n false) true := by
        refine Ev.step (fun k => by rw [ringworklaw25_JournalWrong.j2, if_neg (by decide), he1]) ?_
        simp only [Option.bind_some]
        refine Ev.bind he2 ?_
        simp only [if_true]
        exact Ev.bind (same_ints re.1 (by omega)) j3
      have j1 : Ev (fun k => ringworklaw25_JournalWrong.j1 k l u name n false) true := by
        refine Ev.step (fun k => by rw [ringworklaw25_JournalWrong.j1, if_neg (by decide), ho1]) ?_
        simp only [Option.bind_some]
        refine Ev.bind ho2 ?_
        simp only [if_true]
        exact Ev.bind (same_ints ro.1 (by omega)) j2
      refine Ev.step (fun k => by rw [ringworklaw25_JournalWrong.j0, if_neg (by decide), hw1]) ?_
      simp only [Option.bind_some]
      refine Ev.bind hw2 ?_
      simp only [if_true, bne_self_eq_false]
      exact j1
end Go.Proofs.YteblpjnkinghoaaGreat.J
/- A slice of images, or of notes, that reads as data: its cells. -/
namespace Go.Proofs.YteblpjnkinghoaaGreat.J
open Go.RowKit Go.Deep Go.ChangeShapes Go.WideShapes Go.Proofs.YteblpjnkinghoaaGreatW.PrintWords
section
variable {H : Type} {enc : TypeId × Value → H} {w : World} {base : Nat} {spare : Nat → Bool} {held : Bool}
set_option maxRecDepth 100000 in
theorem reads43 {fuel : Nat} {A : Option Addr} {n c : Nat} {x : DataW H × List MemPlace} (h : DataW.trod enc Tryz.prog w base spare held fuel 22 [.slice A n c] = some x) : ∃ l : List S43, l.length = n ∧ n ≤ c ∧ Kd.C k43 w A n l := by
  rcases open_slice Tryz.underlying22 h with ⟨hc, _⟩ | ⟨a, len, cap, m, q, D, Pl, hc, hb, hl, hm, hmm, _, hx⟩
  · simp at hc
    obtain ⟨rfl, rfl, rfl⟩ := hc
    exact ⟨[], rfl, Nat.le_refl _, Kd.C_nil _ _⟩
  · simp at hc
    obtain ⟨rfl, rfl, rfl⟩ := hc
    have hlm : n ≤ m := by rw [hmm]; split <;> omega
    have each : ∀ i, i < n → ∃ y : S43, w.cell? (a.add (i * 5)) = some (.int .i64 y.f0) ∧ w.cell? (a.add (i * 5 + 1)) = some (.int .i64 y.f1) ∧ w.cell? (a.add (i * 5 + 2)) = some (.string y.f2) ∧ w.cell? (a.add (i * 5 + 3)) = some (.bool y.f3) ∧ w.cell? (a.add (i * 5 + 4)) = some (.string y.f4) := fun i hi => by
      obtain ⟨cs', h1, h2⟩ := hx i (by omega)
      have ce : Tryz.prog.cellsOf 43 = 5 := by kernel_rfl
      rw [ce] at h1
      obtain ⟨_, hlen, hcell⟩ := World.cells?_some h1
      obtain ⟨xs, k, _, _, _, hxl, hf⟩ := DataW.trod_struct Tryz.underlying43 h2
      match xs, hxl, cs', hlen with
      | [y0, y1, y2, y3, y4], _, [v0, v1, v2, v3, v4], _ =>
        have c9 : Tryz.prog.cellsOf 9 = 1 := by kernel_rfl
        have c4 : Tryz.prog.cellsOf 4 = 1 := by kernel_rfl
        have c3 : Tryz.prog.cellsOf 3 = 1 := by kernel_rfl
        have g0 := hf 0 _ rfl
        have g1 := hf 1 _ rfl
        have g2 := hf 2 _ rfl
        have g3 := hf 3 _ rfl
        have g4 := hf 4 _ rfl
        simp [c9, c4, c3] at g0 g1 g2 g3 g4
        obtain ⟨s0, e0, _⟩ := DataW.trod_int Tryz.underlying3 g0
        obtain ⟨s1, e1, _⟩ := DataW.trod_int Tryz.underlying3 g1
        obtain ⟨s2, e2, _⟩ := DataW.trod_string Tryz.underlying9 g2
        obtain ⟨s3, e3, _⟩ := DataW.trod_bool Tryz.underlying4 g3
        obtain ⟨s4, e4, _⟩ := DataW.trod_string Tryz.underlying9 g4
        cases e0; cases e1; cases e2; cases e3; cases e4
        have q0 := hcell 0 (by omega)
        have q1 := hcell 1 (by omega)
        have q2 := hcell 2 (by omega)
        have q3 := hcell 3 (by omega)
        have q4 := hcell 4 (by omega)
        rw [Deep.add_add] at q0 q1 q2 q3 q4
        exact ⟨⟨s0, s1, s2, s3, s4⟩, by simpa using q0, by simpa using q1, by simpa using q2, by simpa using q3, by simpa using q4⟩
    haveI : Inhabited S43 := ⟨⟨0, 0, ⟨#[]⟩, false, ⟨#[]⟩⟩⟩
    obtain ⟨f, hf⟩ := choose_lt each
    refine ⟨(List.range n).map f, by simp, hl, by simp, by simp only [maxLen] at hm; omega, fun _ => ⟨a, rfl, fun j p hj => ?_⟩⟩
    rw [List.getElem?_map] at hj
    obtain ⟨j', hj', rfl⟩ := Option.map_eq_some_iff.1 hj
    have hjn : j < n := by have := (List.getElem?_eq_some_iff.1 hj').1; simpa using this
    have : j' = j := by rw [List.getElem?_range hjn] at hj'; exact (Option.some.inj hj').symm
    subst this
    obtain ⟨q0, q1, q2, q3, q4⟩ := hf j' hjn
    refine ⟨_, rfl, k43_mk w (f j'), fun i u hu => ?_⟩
    have : i = 0 ∨ i = 1 ∨ i = 2 ∨ i = 3 ∨ i = 4 := by have := (List.getElem?_eq_some_iff.1 hu).1; simp at this; omega
    rcases this with rfl | rfl | rfl | rfl | rfl <;> cases hu
    · exact q0
    · exact q1
    · exact q2
    · exact q3
    · exact q4
end
end Go.Proofs.YteblpjnkinghoaaGreat.J
/- the law JournalWrong holds of every input: it returns true, and its arguments read behind the call as they read before. Conditions: none. -/
namespace Go.Proofs.YteblpjnkinghoaaGreat.journalWrong
open Go.ChangeShapes Go.WideShapes Go.ChangeAt Go.RowKit Go.Proofs.YteblpjnkinghoaaGreat.J
open Go.ChangeMaps (open_string shut_string)
theorem own : ownKnob Tryz.prog.godebug = none := by kernel_rfl
theorem laidOut : laidOutB Tryz.prog = true := by kernel_rfl
set_option maxRecDepth 100000 in
theorem lifted (os : Os) (started : os.Started) (H : Type) (enc : TypeId × Value → H) :
    ReturnsInHanded {} Tryz.checked os 3 .any (Rows.journalWrongSpec.pre6 enc Tryz.prog Tryz.f3 Rows.journalWrongRow.domain false) (Rows.journalWrongSpec.post enc Tryz.prog Tryz.f3 false true false false) := by
  refine returnsInHanded_of_change_sized (C := Tryz.checked) own started (by kernel_rfl) Tryz.func3
    (ChangeSpec.witness6 (enc := enc) (C := Tryz.checked) false ⟨#[], #[.slice none 0 0, .int .i64 0, .string ByteArray.empty, .int .i64 0], []⟩ 8 (by kernel_rfl) (by kernel_rfl) (by kernel_rfl) (by kernel_rfl)) ?_
  intro W base args ds gs before hval0 hW hcnd hsz0 _
  have hsz : (DataW.weightsEach Tryz.prog (Tryz.f3.params.toList ++ Rows.journalWrongSpec.plain.varTypes Tryz.prog) (ds ++ gs)).all (· ≤ reachBytes) = true := hsz0
  have hval : ∀ (j : Nat) t v, Tryz.f3.params[j]? = some t → args[j]? = some v → Value.okWide Tryz.prog W .any base t v := hval0
  have hW' := hW
  obtain ⟨p, q, hA0, hV, rfl, hfz, hnd⟩ := hW
  have hA : DataW.TrodAll enc Tryz.prog W 0 (fun _ => true) true Tryz.f3.params.toList args.toList ds p := hA0
  rw [Tryz.params3] at hA hval hsz
  obtain ⟨v0, vs0, d0, ds0, p0, q0, hargs, rfl, rfl, h0, r0⟩ := trodAll_cons hA
  obtain ⟨v1, vs1, d1, ds1, p1, q1, rfl, rfl, rfl, h1, r1⟩ := trodAll_cons r0
  obtain ⟨v2, vs2, d2, ds2, p2, q2, rfl, rfl, rfl, h2, r2⟩ := trodAll_cons r1
  obtain ⟨v3, vs3, d3, ds3, p3, q3, rfl, rfl, rfl, h3, r3⟩ := trodAll_cons r2
  obtain ⟨rfl, rfl, rfl⟩ := trodAll_nil r3
  obtain rfl : args = #[v0, v1, v2, v3] := by cases args; simp_all
  obtain ⟨rfl, rfl⟩ := trodVars_none hV
  obtain ⟨a0, len0, cap0, rfl⟩ := okWide_slice Tryz.underlying22 (hval 0 22 v0 rfl rfl)
  have k0 := h0
  have lt0 : ∀ x ∈ p0, x.block < W.heap.size := by obtain ⟨m, hm⟩ := k0; exact DataW.trod_lt m _ _ _ hm
  obtain ⟨l0, rfl, hc0, hr0⟩ : ∃ l, List.length l = len0 ∧ len0 ≤ cap0 ∧ Go.Proofs.YteblpjnkinghoaaGreatW.PrintWords.Kd.C k43 W a0 len0 l := by obtain ⟨fuel, hf⟩ := h0; exact reads43 hf
  obtain ⟨a1, rfl, rfl, rfl, w1⟩ := open_int Tryz.underlying3 (hval 1 3 v1 rfl rfl) h1
  obtain ⟨a2, rfl, rfl, rfl, y2⟩ := open_string Tryz.underlying9 (hval 2 9 v2 rfl rfl) h2
  have w2 : a2.size ≤ 140737488351232 := by
    have z := sized_string hsz (j := 2) (t := 9) rfl rfl
    rw [Array.length_toList] at z
    exact z
  obtain ⟨a3, rfl, rfl, rfl, w3⟩ := open_int Tryz.underlying3 (hval 3 3 v3 rfl rfl) h3
  clear hA0 hval0 hsz0 hsz
  obtain ⟨k, hk⟩ := (wrong_law l0 a1 a2 a3 (Go.Proofs.YteblpjnkinghoaaGreatW.PrintWords.Kd.C_max hr0)).ex
  refine (ringworklaw25_JournalWrong.calls k a0 cap0 l0 a1 a2 a3 true W hr0 hc0 hk).mono fun e W' ⟨he, bel⟩ => ?_
  subst he
  exact ⟨_, rfl, _, _, _, [], _, [], hW', trodAll_mk1 (shut_bool Tryz.underlying4 _), (trodAll_cons_mk (Below.trod laidOut (by kernel_rfl) (of_decide_eq_true (by kernel_rfl)) k0 bel lt0) (trodAll_cons_mk (shut_int Tryz.underlying3 w1) (trodAll_cons_mk (shut_string Tryz.underlying9 y2) (trodAll_cons_mk (shut_int Tryz.underlying3 w3) trodAll_mk0)))), rfl, bel.frame _, fun h => by cases h⟩
theorem over : Rows.journalWrongRow.holds Tryz.pinned (OpenSpec.ofChange Rows.journalWrongSpec) :=
  OpenClaim.holds_of_wide 3 Tryz.f3 rfl rfl rfl rfl rfl rfl rfl ⟨rfl, rfl, rfl, rfl, rfl⟩ rfl rfl rfl rfl rfl (by kernel_rfl) Tryz.func3 (by kernel_rfl)
    (of_decide_eq_true (by kernel_rfl)) (by unfold Func.isWrapper; first | (rw [if_pos (by decide +kernel)]; kernel_rfl) | (rw [if_neg (by decide +kernel)]; exact ⟨rfl, rfl⟩))
    (fun os started H enc _ => lifted os started H enc)
theorem proved : Rows.JournalWrongSaid := over
#print axioms proved
end Go.Proofs.YteblpjnkinghoaaGreat.journalWrong
namespace Go.Proofs.YteblpjnkinghoaaGreat
/-- The row, under a short name, for the claim. -/
theorem journalWrong_holds : Rows.JournalWrongSaid := journalWrong.proved
end Go.Proofs.YteblpjnkinghoaaGreat

/- The statement JournalReads: Decode is that of 25.1, for all bytes. No condition. -/
import Derived.RangeFuncNested
import Derived.TacticsInMore
import Derived.StillTailTactics
import Derived.Sort.LoopGhostIn
import Derived.Sort.CutIn
import Derived.RegionIn
import Derived.Stop.RegionWithIn
import Derived.Maps.OwnIn
import Derived.RangeFuncLeaves
import Derived.Shelf.Abstract
import Derived.RegionCalls
import Derived.Test.YteblpjnkinghoaaRows
import Derived.WalkKit
import Derived.ProofKit
import Derived.OpenShut
import Derived.ShutString
import Derived.ChangeOld
import Derived.Below
import Derived.SizedLaws
import Derived.Test.YteblpjnkinghoaaReaM2
import Derived.Test.YteblpjnkinghoaaReaM1
set_option linter.unusedVariables false
set_option linter.unusedSimpArgs false
/- A range over a function that writes one cell block of the caller's (E) and one of its own, laid first of all; the body never leaves the loop. -/
set_option linter.unusedVariables false
set_option linter.unusedSimpArgs false
namespace Go.Proofs.Yteblpjnkinghoaa.J
open Go.RowKit Go.Proofs.YteblpjnkinghoaaW.PrintWords Go.Proofs.YteblpjnkinghoaaW.PrintLast Go.Proofs.YteblpjnkinghoaaW.PrintMore
theorem But.put {S : Nat → Prop} {a w : World} (h : But S a w) {l : Nat} (hl : S l ∨ a.heap.size ≤ l) (o : Obj) : But S a (w.putObj l o) :=
  ⟨h.os, h.tape, h.output, by rw [World.putObj_size]; exact h.size, fun k hk hs => by
    rw [World.putObj_heap_other (fun e => by rcases hl with hl | hl; exact hs (e ▸ hl); omega)]
    exact h.block k hk hs⟩
theorem But.alloc {S : Nat → Prop} {a w : World} (h : But S a w) (o : Obj) : But S a (w.alloc o) :=
  h.trans (But.of_below ((Below.refl _ _).alloc (Nat.le_refl _) o))
/-- What a round may not touch: the blocks T that hold cells. -/
def Keeps (T : Nat → Prop) (A B : World) : Prop := A.heap.size ≤ B.heap.size ∧ ∀ k o, T k → A.heap[k]? = some o → o.isCells = true → B.heap[k]? = some o
theorem Keeps.refl (T : Nat → Prop) (A : World) : Keeps T A A := ⟨Nat.le_refl _, fun _ _ _ h _ => h⟩
theorem Keeps.trans {T : Nat → Prop} {A B C : World} (h : Keeps T A B) (k : Keeps T B C) : Keeps T A C :=
  ⟨Nat.le_trans h.1 k.1, fun i o hi ho hc => k.2 i o hi (h.2 i o hi ho hc) hc⟩
theorem Keeps.of_but {T S : Nat → Prop} {A B : World} (h : But S A B) (hs : ∀ k, T k → ¬ S k) : Keeps T A B :=
  ⟨h.size, fun k o hk ho _ => (h.block k (Array.getElem?_eq_some_iff.1 ho).1 (hs k hk)).trans ho⟩
theorem Keeps.put {T : Nat → Prop} {W : World} {l : Nat} {o : Obj} (h : W.heap[l]? = some o) (hc : o.isCells = false) (o' : Obj) : Keeps T W (W.putObj l o') :=
  ⟨by rw [World.putObj_size]; exact Nat.le_refl _, fun k x _ hx hxc => by
    have hne : k ≠ l := fun e => by subst e; rw [h] at hx; cases hx; rw [hc] at hxc; cases hxc
    rw [World.putObj_heap_other hne]
    exact hx⟩
variable {F : Fence} {n : Nat} {P : Program}
/-- The iterator's word: it calls its rounds in turn, touches E, the block that it lays first and new blocks alone, and has told S at its end. -/
def Seq (F : Fence) (n : Nat) (P : Program) (g : Nat) (lb : Array Value) {α : Type} (encs : α → Array Value) (E : Nat) (T : Nat → Prop) (S : List α → World → Prop) (N : Nat) (w : World) : Prop :=
  ∀ (l : Nat) (J : List α → World → Prop) (W : World), Below w.heap.size w W → W.heap.size = w.heap.size + 2 →
    (∀ pre A B, J pre A → But (fun b => b = E ∨ b = W.heap.size) A B → J pre B) →
    (∀ pre x W1, J pre W1 → pre.length < N → W.heap.size < W1.heap.size → YieldAt F (n - 1) P l (encs x) W1 fun e W' => e = .returned (.bool true) ∧ J (pre ++ [x]) W' ∧ Keeps T W1 W') →
    J [] W →
    CallsIn F n P g (#[.func (.yield l) #[] #[]] ++ lb) W fun e W' => (∃ v, e = .returned v) ∧ ∃ xs, S xs W' ∧ J xs W'
theorem wpIn_range {α : Type} {g : Operand} {ps : Array Tmp} {assign body : Code} {Q : Exit → Act → World → Prop} {a : Act} {w : World}
    (hro : F.round = none) (h1 : 1 ≤ n) {gf : Nat} {lb : Array Value} (hg : a.eval g = .func (.func gf) #[] lb) (hFg : F.fn gf) (eg : ∀ args w, (callFunc gf args).run P w = .ok (.enter gf args) w)
    {encs : α → Array Value} (hps : ∀ x, (encs x).size = ps.size) {E : Nat} (hE : E < w.heap.size) {T : Nat → Prop} {S : List α → World → Prop} {N : Nat} (hseq : Seq F (n - 1) P gf lb encs E T S N w)
    (hS : ∀ xs A o, S xs A → S xs (A.putObj (w.heap.size + 1) o))
    (I : List α → World → Prop) (hI : ∀ pre A B, I pre A → But (fun b => b = E ∨ w.heap.size ≤ b ∧ b ≤ w.heap.size + 2) A B → I pre B) (h0 : I [] w)
    (Ax : α → Act → World → Prop) (hAx : ∀ x a' A o, Ax x a' A → Ax x a' (A.putObj (w.heap.size + 1) o))
    (hassign : ∀ (l : Nat) (pre : List α) (x : α) (W : World) (K : Act → World → Prop), w.heap.size + 3 ≤ W.heap.size → I pre W → (∀ a' W', Below W.heap.size W W' → Ax x a' W' → K a' W') →
      assign.wpIn (F.inRound l) (n - 1 - 1) P (Exit.then K (fun _ _ _ => False)) { tmps := (ps.zip (encs x)).foldl (fun t (p, v) => t.setIfInBounds p v) a.tmps, defers := [] } W)
    (hbody : ∀ (l : Nat) (pre : List α) (x : α) (a' : Act) (W : World), w.heap.size + 3 ≤ W.heap.size → pre.length < N → I pre W → Ax x a' W → body.wpIn (F.inRound l) (n - 1 - 1) P (fun e _ W' => e = .normal ∧ KeepsFrom w.heap.size W W' ∧ Keeps T W W' ∧ I (pre ++ [x]) W') a' W)
    (hdone : ∀ (xs : List α) (W : World), S xs W → I xs W → W.heap[w.heap.size]? = some (.deferred (some [])) → Q .normal { a with defers := { target := .collected w.heap.size, args := #[] } :: a.defers } W) :
    (Code.rangeFunc g ps assign body).wpIn F n P Q a w := by
  refine wpIn_rangeFunc ?_
  intro fn hfn
  rw [hro]
  -- the loop's record and the block for deferred calls
  obtain ⟨rc, hrc⟩ : ∃ rc : LoopState → Loop, rc = fun st => { state := st, pending := none, fn, tmps := a.tmps, params := ps, assign, body, defers := w.heap.size } := ⟨_, rfl⟩
  obtain ⟨V, hV⟩ : ∃ V, (w.alloc (.deferred (some []))).alloc (.loop (rc .ready)) = V := ⟨_, rfl⟩
  have hsz : V.heap.size = w.heap.size + 2 := by rw [← hV]; simp
  have hVb : Below w.heap.size w V := by rw [← hV]; exact ((Below.refl _ w).alloc (Nat.le_refl _) _).alloc (by simp) _
  have hVl : V.heap[w.heap.size + 1]? = some (.loop (rc .ready)) := by
    rw [← hV]
    have := World.alloc_heap_new (w.alloc (.deferred (some []))) (.loop (rc .ready))
    rwa [World.size_alloc] at this
  have hVd : V.heap[w.heap.size]? = some (.deferred (some [])) := by
    rw [← hV]
    exact (Below.heap_alloc _ _ _ (by simp)).trans (World.alloc_heap_new w _)
  have hVI : I [] V := hI _ _ _ h0 (But.of_below hVb)
  refine ⟨w.heap.size + 1, [{ target := .collected w.heap.size, args := #[] }], V, { target := .fn (.func gf) lb, args := #[.func (.yield (w.heap.size + 1)) #[] #[]] }, V, gf,
    #[.func (.yield (w.heap.size + 1)) #[] #[]] ++ lb, V, ?_, ?_, ?_, ?_, fun _ => h1, ?_⟩
  · rw [← hV, hrc]; exact run_enterLoop_outer _ _ _ _ _
  · simp only [resolve, hg]
    simp [go_sem]
  · intro f' hf'
    simp [Target.leads] at hf'
    subst hf'
    exact hFg
  · simp [invoke, go_sem, eg]
  refine (hseq (w.heap.size + 1) (fun pre W => I pre W ∧ W.heap[w.heap.size + 1]? = some (.loop (rc .ready)) ∧ W.heap[w.heap.size]? = some (.deferred (some []))) V hVb hsz ?_ ?_ ⟨hVI, hVl, hVd⟩).mono ?_
  · -- the iterator's own steps
    rintro pre A B ⟨ha, hl, hd⟩ hb
    rw [hsz] at hb
    refine ⟨hI _ _ _ ha (hb.mono fun k _ hk => ?_), (hb.block _ (Array.getElem?_eq_some_iff.1 hl).1 (fun hk => ?_)).trans hl, (hb.block _ (Array.getElem?_eq_some_iff.1 hd).1 (fun hk => ?_)).trans hd⟩
    · rcases hk with hk | hk
      · exact Or.inl hk
      · exact Or.inr ⟨by omega, by omega⟩
    · rcases hk with hk | hk <;> omega
    · rcases hk with hk | hk <;> omega
  · -- a round
    rintro pre x W ⟨hi, hl, hd⟩ hN hVs
    have hlt : w.heap.size + 1 < W.heap.size := (Array.getElem?_eq_some_iff.1 hl).1
    have hy := run_yield (P := P) (args := encs x) hl (by rw [hrc]; exact hps x)
    rw [hrc] at hy
    refine ⟨fn, _, assign, body, hy, roundIn_of_wpIn hfn (hassign _ pre x W _ (by omega) hi ?_)⟩
    intro a' Wa hba hax
    have hia : I pre Wa := hI _ _ _ hi (But.of_below hba)
    have hla : Wa.heap[w.heap.size + 1]? = some (.loop (rc .ready)) := (hba.block _ hlt).trans hl
    have hda : Wa.heap[w.heap.size]? = some (.deferred (some [])) := (hba.block _ (by omega)).trans hd
    have hlta : w.heap.size + 1 < Wa.heap.size := (Array.getElem?_eq_some_iff.1 hla).1
    refine ⟨_, run_beginRound hla (by rw [hrc]), ?_⟩
    obtain ⟨Wb, hWb⟩ : ∃ Wb, Wa.putObj (w.heap.size + 1) (.loop { rc .ready with state := .busy }) = Wb := ⟨_, rfl⟩
    have hib : I pre Wb := by rw [← hWb]; exact hI _ _ _ hia ((But.refl _ _).put (Or.inl (Or.inr ⟨by omega, by omega⟩)) _)
    have hlb : Wb.heap[w.heap.size + 1]? = some (.loop { rc .ready with state := .busy }) := by rw [← hWb]; exact World.putObj_heap_same hlta
    have hdb : Wb.heap[w.heap.size]? = some (.deferred (some [])) := by rw [← hWb]; exact (World.putObj_heap_other (by omega)).trans hda
    have haxb : Ax x a' Wb := by rw [← hWb]; exact hAx _ _ _ _ hax
    have hkb : Keeps T Wa Wb := by rw [← hWb]; exact Keeps.put hla rfl _
    have hszb : w.heap.size + 3 ≤ Wb.heap.size := by have := hba.size; rw [← hWb, World.putObj_size]; omega
    rw [hWb]
    refine wpIn_mono (hbody _ pre x a' Wb hszb hN hib haxb) ?_
    rintro e a3 W3 ⟨rfl, hk3, hp3, hi3⟩
    have hl3 := hk3.same _ _ (by omega) hlb rfl
    have hd3 := hk3.same _ _ (Nat.le_refl _) hdb rfl
    have hlt3 : w.heap.size + 1 < W3.heap.size := (Array.getElem?_eq_some_iff.1 hl3).1
    refine ⟨_, _, run_endRound none hl3, rfl, ⟨hI _ _ _ hi3 ((But.refl _ _).put (Or.inl (Or.inr ⟨by omega, by omega⟩)) _), ?_, ?_⟩, ?_⟩
    · rw [World.putObj_heap_same hlt3, hrc]; rfl
    · exact (World.putObj_heap_other (by omega)).trans hd3
    · exact (((Keeps.of_but (But.of_below (S := fun _ => False) hba) (fun _ _ h => h)).trans hkb).trans hp3).trans (Keeps.put hl3 rfl _)
  · -- behind the iterator
    rintro e W2 ⟨⟨v, rfl⟩, xs, hs, hi, hl, hd⟩
    have := run_endLoop (P := P) hl (by rw [hrc]; simp)
    exact ⟨none, _, by rw [this, hrc], hdone xs _ (hS _ _ _ hs) (hI _ _ _ hi ((But.refl _ _).put (Or.inl (Or.inr ⟨by omega, by omega⟩)) _)) ((World.putObj_heap_other (by omega)).trans hd)⟩
end Go.Proofs.Yteblpjnkinghoaa.J
/- The program's notes: the iterator over the notes of bytes. -/
set_option linter.unusedVariables false
set_option linter.unusedSimpArgs false
namespace Go.Proofs.Yteblpjnkinghoaa.J
open Go.RowKit Go.Proofs.YteblpjnkinghoaaW.PrintWords Go.Proofs.YteblpjnkinghoaaW.PrintLast Go.Proofs.YteblpjnkinghoaaW.PrintMore
attribute [local go_sem] Oper.semAt_some
/-- What a reading from place i on tells: the notes, how far it came, the last sum, whether a part is left, the error. -/
def decGo (s : ByteArray) : Nat → Int → Int → List S39 × Int × Int × Bool × Int
  | 0, i, sum => ([], i, sum, false, 0)
  | k + 1, i, sum => if i < (s.size : Int) then
      (match peek s i sum with
       | .torn => ([], i, sum, true, 0)
       | .wrong => ([], i, sum, false, 12)
       | .ok n sm fin => (n :: (decGo s k fin sm).1, (decGo s k fin sm).2))
    else ([], i, sum, false, 0)
theorem tail_fin {s e : ByteArray} {n nn : S39} {sum sm i fin : Int} : ∀ {m : Nat}, m ≤ 8 → i ≤ (s.size : Int) → (m = 0 → i + 8 ≤ (s.size : Int)) → tailOut s e n sum i m = .ok nn sm fin → fin = i + 8 ∧ i + 8 ≤ (s.size : Int) := by
  intro m
  induction m with
  | zero => intro _ _ h0 h; simp only [tailOut, Out.ok.injEq] at h; exact ⟨h.2.2.symm, h0 rfl⟩
  | succ m ih =>
    intro hm hi h0 h
    simp only [tailOut] at h
    split at h
    · cases h
    · split at h
      · refine ih (by omega) hi (fun e => ?_) h
        subst e
        rename_i h1 _
        simp at h1
        omega
      · cases h
/-- A note that is read is longer than eight bytes, and lies within. -/
theorem peek_fin {s : ByteArray} {i last : Int} {n : S39} {sm fin : Int} (hi : 0 ≤ i) (h : peek s i last = .ok n sm fin) : i + 16 ≤ fin ∧ fin ≤ (s.size : Int) := by
  unfold peek at h
  split at h
  case isFalse => cases h
  split at h
  case isFalse => cases h
  unfold peek1 at h
  split at h
  case isFalse => cases h
  split at h
  case isFalse => cases h
  unfold peek2 at h
  split at h
  case isFalse => cases h
  split at h
  case isFalse => cases h
  split at h
  case isFalse => cases h
  unfold peek3 at h
  split at h
  case isFalse => cases h
  split at h
  case isFalse => cases h
  unfold peek4 at h
  split at h
  case isFalse => cases h
  split at h
  case isFalse => cases h
  unfold peek5 at h
  split at h
  case isFalse => cases h
  generalize (if bt s (i + 1) = 6 then (40 : Int) else if bt s (i + 5 + bt s (i + 4)) = 1 then 4000 else 0) = most at h
  unfold peek6 at h
  split at h
  case isFalse => cases h
  split at h
  case isFalse => cases h
  split at h
  case isFalse => cases h
  unfold peek7 at h
  split at h
  case isFalse => cases h
  split at h
  case isFalse => cases h
  unfold peek8 at h
  have := tail_fin (Nat.le_refl 8) (by assumption) (by simp) h
  have h4 := bt_range s (i + 4)
  have h6 := bt_range s (i + 6 + bt s (i + 4))
  have h7 := bt_range s (i + 7 + bt s (i + 4))
  omega
theorem Keeps.same {T : Nat → Prop} {A B : World} (h : Keeps T A B) {p : Addr} {v : Value} (hT : T p.block) (hc : A.cell? p = some v) : B.heap[p.block]? = A.heap[p.block]? := by
  unfold World.cell? at hc
  split at hc
  · rename_i cs t f hb
    rw [hb]
    exact h.2 _ _ hT hb rfl
  · cases hc
theorem St.keeps {E : Nat} {used sum : Int} {t : Bool} {e : Int} {T : Nat → Prop} {A B : World} (h : St E used sum t e A) (hk : Keeps T A B) (hT : T E) : St E used sum t e B :=
  have hs := hk.same (p := ⟨E, 0, none⟩) hT h.c0
  ⟨(World.cell?_of_block (w := A) hs).trans h.c0, (World.cell?_of_block (w := A) (a := ⟨E, 1, none⟩) hs).trans h.c1, (World.cell?_of_block (w := A) (a := ⟨E, 2, none⟩) hs).trans h.c2, (World.cell?_of_block (w := A) (a := ⟨E, 3, none⟩) hs).trans h.c3,
   (World.frozen?_of_block (w := A) hs).trans h.z0, (World.frozen?_of_block (w := A) (a := ⟨E, 1, none⟩) hs).trans h.z1, (World.frozen?_of_block (w := A) (a := ⟨E, 2, none⟩) hs).trans h.z2, (World.frozen?_of_block (w := A) (a := ⟨E, 3, none⟩) hs).trans h.z3⟩
theorem Rd.keeps {R : Nat} {s : ByteArray} {i : Int} {T : Nat → Prop} {A B : World} (h : Rd R s i A) (hk : Keeps T A B) (hT : T R) : Rd R s i B :=
  have hs := hk.same (p := ⟨R, 0, none⟩) hT h.str
  ⟨(World.cell?_of_block (w := A) hs).trans h.str, (World.cell?_of_block (w := A) (a := ⟨R, 1, none⟩) hs).trans h.pos, (World.frozen?_of_block (w := A) (a := ⟨R, 1, none⟩) hs).trans h.fz⟩
theorem St.set0 {E : Nat} {used sum : Int} {t : Bool} {e : Int} {w : World} (h : St E used sum t e w) (x : Int) : St E x sum t e (w.setCell ⟨E, 0, none⟩ (.int .i64 x)) :=
  ⟨World.cell?_setCell_same _ _ _ h.c0, (World.cell?_setCell_other _ _ _ _ (by simp)).trans h.c1, (World.cell?_setCell_other _ _ _ _ (by simp)).trans h.c2, (World.cell?_setCell_other _ _ _ _ (by simp)).trans h.c3,
   (World.frozen?_setCell _ _ _ _).trans h.z0, (World.frozen?_setCell _ _ _ _).trans h.z1, (World.frozen?_setCell _ _ _ _).trans h.z2, (World.frozen?_setCell _ _ _ _).trans h.z3⟩
/-- What the iterator has told when it has ended. -/
def Told (E : Nat) (s : ByteArray) (sum0 : Int) (xs : List S39) (W : World) : Prop :=
  ∃ u sm tn e, St E u sm tn e W ∧ decGo s (s.size + 1) 0 sum0 = (xs, u, sm, tn, e)
set_option maxHeartbeats 8000000 in
set_option maxRecDepth 100000 in
theorem notes1_seq (n : Nat) (Bs Be E : Nat) (s : ByteArray) (sum0 : Int) (hb : (s.size : Int) ≤ 100000) (w : World) (hBs : w.heap[Bs]? = some (.cells #[.string s] 9 (0, 0))) (hBe : w.heap[Be]? = some (.cells #[.pointer (some ⟨E, 0, none⟩)] 83 (0, 0)))
    (hE : St E 0 sum0 false 0 w) (hsE : ¬ Bs = E) (heE : ¬ Be = E) :
    Seq Fence.wide n Try.prog 72 #[.pointer (some ⟨Bs, 0, none⟩), .pointer (some ⟨Be, 0, none⟩)] (fun n : S39 => #[.agg #[.int .i64 n.f0, .int .i64 n.f1, .string n.f2, .bool n.f3, .string n.f4]]) E (fun k => k = Bs ∨ k = Be ∨ k = E ∨ k = w.heap.size + 2) (Told E s sum0) (s.size + 1) w := by
  intro l J W hbw hszw hJ hY h0
  rw [hszw] at hJ hY
  replace hBs := (hbw.block _ (blk_lt hBs)).trans hBs
  replace hBe := (hbw.block _ (blk_lt hBe)).trans hBe
  have hEl := cell_lt hE.c0
  have hsl := blk_lt hBs
  have hel := blk_lt hBe
  refine callsIn_of_wp Try.func72 rfl trivial ?_ rfl
  simp only [Try.ntmps72, List.size_toArray, List.length_cons, List.length_nil, Nat.reduceAdd, Nat.reduceSub, Array.replicate_succ, Array.replicate_zero, List.push_toArray, List.append_toArray, List.nil_append, List.cons_append]
  have hc1 : W.cell? ⟨Bs, 0, none⟩ = some (.string s) := (blk_cell hBs 0).trans rfl
  have hBsR : ¬ Bs = w.heap.size + 2 := by omega
  have hBeR : ¬ Be = w.heap.size + 2 := by omega
  have hER : ¬ E = w.heap.size + 2 := by simp at hEl; omega
  have hR0 : (W.alloc (.cells #[.string s, .int .i64 0] 97)).heap[w.heap.size + 2]? = some (.cells #[.string s, .int .i64 0] 97 (0, 0)) := by rw [← hszw]; exact heap_alloc_new _ _
  have hb1 : Below W.heap.size W (W.alloc (.cells #[.string s, .int .i64 0] 97)) := (Below.refl _ _).alloc (Nat.le_refl _) _
  have hE1 : St E 0 sum0 false 0 (W.alloc (.cells #[.string s, .int .i64 0] 97)) := (hE.past (But.of_below (S := fun _ => False) hbw) (fun h => h)).past (But.of_below (S := fun _ => False) hb1) (fun h => h)
  have hJ1 := hJ _ _ _ h0 (But.of_below hb1)
  have hBs1 := (hb1.block _ hsl).trans hBs
  have hBe1 := (hb1.block _ hel).trans hBe
  have hR1 : Rd (w.heap.size + 2) s 0 (W.alloc (.cells #[.string s, .int .i64 0] 97)) := ⟨(blk_cell hR0 0).trans rfl, (blk_cell hR0 1).trans rfl, blk_frozen hR0 1⟩
  gi_wp2
  generalize W.alloc (.cells #[.string s, .int .i64 0] 97) = W1 at hE1 hJ1 hBs1 hBe1 hR1 ⊢
  clear hb1 hR0 hBs hBe hsl hel hc1 h0 hbw hszw hE hEl
  generalize w.heap.size + 2 = R at hJ hY hBsR hBeR hER hR1 ⊢
  obtain ⟨D0, hD0⟩ : ∃ D, decGo s (s.size + 1) 0 sum0 = D := ⟨_, rfl⟩
  gi_loopg [6] (s.size + 1) (fun kq v6 wk => ∃ (pre : List S39) (i sum : Int), 0 ≤ i ∧ i ≤ (s.size : Int) ∧ Aside0 (s.size < kq + i.toNat) ∧ Aside0 (pre.length ≤ i.toNat) ∧ Aside0 (Rd R s i wk) ∧ Aside0 (St E i sum false 0 wk) ∧ J pre wk ∧ Aside0 (wk.heap[Bs]? = some (.cells #[.string s] 9 (0, 0))) ∧ Aside0 (wk.heap[Be]? = some (.cells #[.pointer (some ⟨E, 0, none⟩)] 83 (0, 0))) ∧
      Aside0 (D0 = (pre ++ (decGo s kq i sum).1, (decGo s kq i sum).2)))
  case atStart => exact ⟨[], 0, sum0, Int.le_refl _, by omega, ⟨by simp⟩, ⟨by simp⟩, ⟨hR1⟩, ⟨hE1⟩, hJ1, ⟨hBs1⟩, ⟨hBe1⟩, ⟨by rw [← hD0]; simp⟩⟩
  case round =>
    obtain ⟨pre, i, sum, hi, hi2, ⟨hk⟩, ⟨hpl⟩, ⟨hrd⟩, ⟨hst⟩, hj, ⟨hbs⟩, ⟨hbe⟩, ⟨hdec⟩⟩ := hrel
    have hcs : wr.cell? ⟨Bs, 0, none⟩ = some (.string s) := (blk_cell hbs 0).trans rfl
    have hce : wr.cell? ⟨Be, 0, none⟩ = some (.pointer (some ⟨E, 0, none⟩)) := (blk_cell hbe 0).trans rfl
    have hcp := hrd.pos
    cases gk with
    | zero => exact absurd hk (by omega)
    | succ k1 =>
      have hqs := fun p : Past wr => Past.cell hcs p
      have hqp := fun p : Past wr => Past.cell hcp p
      unfold decGo at hdec
      by_cases hlt : i < (s.size : Int)
      · have hd : decide (i < (s.size : Int)) = true := decide_eq_true hlt
        gi_wp2
        refine wpIn_wide.2 ?_
        refine wp_region_past (by kernel_rfl) (by kernel_rfl) ?_
        repeat (go_big_quiet_step (fail))
        refine wpQuiet_nil ?_
        rintro _ ⟨p, rfl⟩
        have hb1 := p.h
        have hrd1 := hrd.past hb1
        have hst1 := hst.past (But.of_below (S := fun _ => False) hb1) (fun h => h)
        have hj1 := hJ _ _ _ hj (But.of_below hb1)
        have hbs1 := (hb1.block _ (blk_lt hbs)).trans hbs
        have hbe1 := (hb1.block _ (blk_lt hbe)).trans hbe
        clear hce
        have hce : p.W.cell? ⟨Be, 0, none⟩ = some (.pointer (some ⟨E, 0, none⟩)) := (blk_cell hbe1 0).trans rfl
        generalize p.W = w2 at hb1 hrd1 hst1 hj1 hbs1 hbe1 hce ⊢
        clear hb1 hrd hst hj hbs hbe hqs hqp hcs hcp p wr
        rw [if_pos hlt] at hdec
        gi_upto_region 2 with (fail)
        cases ho : peek s i sum with
        | torn =>
          rw [ho] at hdec
          gi_wp2_with (refine ⟨trivial, fun h => (by cases h), ?_⟩; gi_at_call 73; refine callsIn_wide.2 (Calls.mono (next_torn R E s i i sum _ hrd1 hst1 hER hi hb hi2 ho) ?_); rintro e w3 ⟨rfl, hst3, hb3⟩)
          repeat (refine And.intro (fun f h => nomatch h) ?_; gi_wp2)
          have hb4 : But (fun b => b = E ∨ b = R) w2 (w3.alloc nil39) := (hb3.mono fun k _ hk => hk.symm).alloc _
          have hst4 := hst3.past (But.of_below (S := fun _ => False) ((Below.refl _ _).alloc (Nat.le_refl _) nil39)) (fun h => h)
          refine bodyPost_ret (results_none rfl _ _ _) rfl ?_
          exact ⟨⟨_, rfl⟩, pre, ⟨i, sum, true, 0, hst4, by rw [hD0, hdec]; simp⟩, hJ _ _ _ hj1 hb4⟩
        | wrong =>
          rw [ho] at hdec
          gi_wp2_with (refine ⟨trivial, fun h => (by cases h), ?_⟩; gi_at_call 73; refine callsIn_wide.2 (Calls.mono (next_wrong R E s i i sum _ hrd1 hst1 hER hi hb hi2 ho) ?_); rintro e w3 ⟨rfl, hst3, hb3⟩)
          repeat (refine And.intro (fun f h => nomatch h) ?_; gi_wp2)
          have hb4 : But (fun b => b = E ∨ b = R) w2 (w3.alloc nil39) := (hb3.mono fun k _ hk => hk.symm).alloc _
          have hst4 := hst3.past (But.of_below (S := fun _ => False) ((Below.refl _ _).alloc (Nat.le_refl _) nil39)) (fun h => h)
          refine bodyPost_ret (results_none rfl _ _ _) rfl ?_
          exact ⟨⟨_, rfl⟩, pre, ⟨i, sum, false, 12, hst4, by rw [hD0, hdec]; simp⟩, hJ _ _ _ hj1 hb4⟩
        | ok nt sm fin =>
          rw [ho] at hdec
          gi_upto_region 3 with (refine ⟨trivial, fun h => (by cases h), ?_⟩; gi_at_call 73; refine callsIn_wide.2 (Calls.mono (next_ok R E s i i sum _ hrd1 hst1 hER hi hb hi2 nt sm fin ho) ?_); rintro e w3 ⟨rfl, hst3, hrd3, hb3⟩)
          obtain ⟨f0, f1, f2, f3, f4⟩ := nt
          have hal := (Below.refl w3.heap.size w3).alloc (Nat.le_refl _) (.cells #[.int .i64 f0, .int .i64 f1, .string f2, .bool f3, .string f4] 39)
          have hb4 : But (fun b => b = E ∨ b = R) w2 (w3.alloc (.cells #[.int .i64 f0, .int .i64 f1, .string f2, .bool f3, .string f4] 39)) := (hb3.mono fun k _ hk => hk.symm).alloc _
          have hst4 := hst3.past (But.of_below (S := fun _ => False) hal) (fun h => h)
          have hrd4 := hrd3.past hal
          have hj4 := hJ _ _ _ hj1 hb4
          have hbs4 := (hb4.block _ (blk_lt hbs1) (fun h => by rcases h with h | h; exact hsE h; exact hBsR h)).trans hbs1
          have hbe4 := (hb4.block _ (blk_lt hbe1) (fun h => by rcases h with h | h; exact heE h; exact hBeR h)).trans hbe1
          have hnb := heap_alloc_new w3 (.cells #[.int .i64 f0, .int .i64 f1, .string f2, .bool f3, .string f4] 39)
          have hn0 := (blk_cell hnb 0).trans rfl
          have hn1 := (blk_cell hnb 1).trans rfl
          have hn2 := (blk_cell hnb 2).trans rfl
          have hn3 := (blk_cell hnb 3).trans rfl
          have hn4 := (blk_cell hnb 4).trans rfl
          generalize w3.heap.size = Nn, w3.alloc (.cells #[.int .i64 f0, .int .i64 f1, .string f2, .bool f3, .string f4] 39) = w4 at hst4 hrd4 hj4 hbs4 hbe4 hn0 hn1 hn2 hn3 hn4 ⊢
          obtain ⟨fn, tmps, assign, body, hy, hR⟩ := hY pre ⟨f0, f1, f2, f3, f4⟩ w4 hj4 (by omega) hrd4.lt
          clear hb4 hal hnb hb3 hst3 hrd3 hst1 hrd1 hj1 hbs1 hbe1 hce hj4
          gi_wp2
          refine ⟨fun h => (by cases h), hR.mono ?_⟩
          clear hR hy hn0 hn1 hn2 hn3 hn4
          rintro e w5 ⟨rfl, hj5, hk5⟩
          have hst5 : St E i sm false 0 w5 := hst4.keeps hk5 (Or.inr (Or.inr (Or.inl rfl)))
          have hrd5 : Rd R s fin w5 := hrd4.keeps hk5 (Or.inr (Or.inr (Or.inr rfl)))
          have hbs5 : w5.heap[Bs]? = some (.cells #[.string s] 9 (0, 0)) := hk5.2 _ _ (Or.inl rfl) hbs4 rfl
          have hbe5 : w5.heap[Be]? = some (.cells #[.pointer (some ⟨E, 0, none⟩)] 83 (0, 0)) := hk5.2 _ _ (Or.inr (Or.inl rfl)) hbe4 rfl
          have hce : w5.cell? ⟨Be, 0, none⟩ = some (.pointer (some ⟨E, 0, none⟩)) := (blk_cell hbe5 0).trans rfl
          have hcp := hrd5.pos
          have hz0 := hst5.z0
          have hc0 := hst5.c0
          gi_wp2
          refine wpIn_wide.2 ?_
          go_still_tail 7, (by kernel_rfl)
          change wpList _ _ _ _ _ w5.drew
          have hb6 : But (fun b => b = E ∨ b = R) w5 w5.drew := (But.refl _ _).drew
          have hst6 := hst5.past (But.of_below (S := fun _ => False) (below_drew (Below.refl w5.heap.size w5))) (fun h => h)
          have hrd6 := hrd5.past (below_drew (Below.refl w5.heap.size w5))
          have hbs6 : w5.drew.heap[Bs]? = some (.cells #[.string s] 9 (0, 0)) := hbs5
          have hbe6 : w5.drew.heap[Be]? = some (.cells #[.pointer (some ⟨E, 0, none⟩)] 83 (0, 0)) := hbe5
          clear hz0 hc0 hce hcp hst5 hrd5 hbs5 hbe5 hk5 hst4 hrd4 hbs4 hbe4
          generalize w5.drew = w6 at hb6 hst6 hrd6 hbs6 hbe6 ⊢
          have hz0 := hst6.z0
          have hc0 := hst6.c0
          go_wp2
          gi_wp2
          gi_roundg k1
          case measure => omega
          case rel =>
            have hf := peek_fin hi ho
            refine ⟨pre ++ [⟨f0, f1, f2, f3, f4⟩], fin, sm, by omega, hf.2, ⟨by omega⟩, ⟨by simp only [List.length_append, List.length_cons, List.length_nil]; omega⟩, ⟨hrd6.far (p := ⟨E, 0, none⟩) hER _⟩, ⟨hst6.set0 fin⟩, hJ _ _ _ hj5 (hb6.set (S := fun b => b = E ∨ b = R) (p := ⟨E, 0, none⟩) (Or.inl rfl) _), ⟨?_⟩, ⟨?_⟩, ⟨?_⟩⟩
            · rw [Below.heap_setCell _ _ _ _ hsE]
              exact hbs6
            · rw [Below.heap_setCell _ _ _ _ heE]
              exact hbe6
            · rw [hdec]
              simp
      · have hd : decide (i < (s.size : Int)) = false := decide_eq_false hlt
        rw [if_neg hlt] at hdec
        gi_wp2
        refine wpIn_wide.2 ?_
        refine wp_region_past (by kernel_rfl) (by kernel_rfl) ?_
        repeat (go_big_quiet_step (fail))
        refine wpQuiet_nil ?_
        rintro _ ⟨p, rfl⟩
        have hb1 := p.h
        have hst1 := hst.past (But.of_below (S := fun _ => False) hb1) (fun h => h)
        have hj1 := hJ _ _ _ hj (But.of_below hb1)
        generalize p.W = w2 at hb1 hst1 hj1 ⊢
        gi_wp2
        go_end0
        exact ⟨⟨_, rfl⟩, pre, ⟨i, sum, false, 0, hst1, by rw [hD0, hdec]; simp⟩, hj1⟩
end Go.Proofs.Yteblpjnkinghoaa.J
/- The program's Decode. -/
set_option linter.unusedVariables false
set_option linter.unusedSimpArgs false
namespace Go.Proofs.Yteblpjnkinghoaa.J
open Go.RowKit Go.Proofs.YteblpjnkinghoaaW.PrintWords Go.Proofs.YteblpjnkinghoaaW.PrintLast Go.Proofs.YteblpjnkinghoaaW.PrintMore
attribute [local go_sem] Oper.semAt_some
/-- What Decode answers. -/
def journal_Decode.f (a0 : ByteArray) : Option (List S39 × Int × Bool × Int) :=
  if (a0.size : Int) > 65536 then some ([], 0, false, 3) else some ((decGo a0 (a0.size + 1) 0 0).1, (decGo a0 (a0.size + 1) 0 0).2.1, (decGo a0 (a0.size + 1) 0 0).2.2.2.1, (decGo a0 (a0.size + 1) 0 0).2.2.2.2)

/-- A note appended to a row of notes, inside a fence. -/
theorem R39_append_in {F : Fence} {nF : Nat} {ops : Array Oper} {rest : List Oper} {o : Oper} {a : Act} {Q : Exit → Act → World → Prop} {W : World} (base : Nat) (hgd : o.guard = none) (s x : Operand)
    (ho : o.op = .call { callee := .builtin .append, args := #[s, x], argTypes := #[23, 23] })
    (v : Value) (xs : List S39) (p : S39) (ok : Nat → Prop) (hs : a.eval s = v) (hx : a.eval x = .slice (some ⟨W.heap.size, 0, none⟩) 1 1) (hfresh : ∀ k, W.heap.size ≤ k → ok k)
    (HO : k39.R 39 W base ok v xs) (hbase : base ≤ W.heap.size) (hl : xs.length ≤ 1000000)
    (h : ∀ v1 w1, k39.R 39 w1 base ok v1 (xs ++ [p]) → W.grownBy w1 v.ownBlock → wpListIn F nF Try.prog ops Q rest (a.put o.dst v1) w1) :
    wpListIn F nF Try.prog ops Q (o :: rest) a (W.alloc (.cells #[.int .i64 p.f0, .int .i64 p.f1, .string p.f2, .bool p.f3, .string p.f4] 39)) := by
  obtain ⟨h0, inner, hown, hr⟩ := HO
  obtain ⟨i0, hi, hzz⟩ := Option.map_eq_some_iff.1 info39
  simp only [Prod.mk.injEq] at hzz
  obtain ⟨hz0, hz1, hz2⟩ := hzz
  refine wpListIn_append_own_at _ hgd s x 23 ho base 39 i0 _ 5 56 Try.underlying23 hi hz0 hz1 hz2 rfl (by decide) v xs.length inner hs (hown.alloc _) ⟨W.heap.size, 0, none⟩ 1 1 [.int .i64 p.f0, .int .i64 p.f1, .string p.f2, .bool p.f3, .string p.f4] hx rfl
    (by simpa using World.news_of_block (cs := #[.int .i64 p.f0, .int .i64 p.f1, .string p.f2, .bool p.f3, .string p.f4]) (t := 39) (fr := (0, 0)) (heap_alloc_new W (.cells #[.int .i64 p.f0, .int .i64 p.f1, .string p.f2, .bool p.f3, .string p.f4] 39)))
    (by simp [Value.oneCell']) (by simp only [maxLen]; omega) (by omega) (by simp; omega) ?_
  intro v1 w1 hown1 hg _ hat
  have hg1 : W.grownBy w1 v.ownBlock := World.grownBy.trans (World.grownBy_alloc W _ _) hg
  refine h v1 w1 (Kd.R_appended h0 hr (k39_mkM W base (fun _ => False) p) (fun _ h => h.elim) hfresh hown1 hg1 ?_) hg1
  rcases hat with hat | hat
  · exact .inl hat
  · exact .inr ⟨_, hat, by simp⟩
theorem R39_slice {w : World} {base : Nat} {ok : Nat → Prop} {v : Value} {xs : List S39} (h : k39.R 39 w base ok v xs) : ∃ A n c, v = .slice A n c := by
  obtain ⟨_, inner, hown, _⟩ := h
  rcases hown.2 with ⟨rfl, _⟩ | ⟨g, cap, cur, rfl, _⟩
  · exact ⟨_, _, _, rfl⟩
  · exact ⟨_, _, _, rfl⟩
theorem R39_own {w : World} {base : Nat} {ok : Nat → Prop} {v : Value} {xs : List S39} (h : k39.R 39 w base ok v xs) {g : Nat} (hg : v.ownBlock = some g) {o : Obj} (ho : w.heap[g]? = some o) : o.isCells = true := by
  obtain ⟨_, inner, hown, _⟩ := h
  rcases hown.2 with ⟨rfl, _⟩ | ⟨g', cap, cur, rfl, _, hh, _⟩
  · simp [Value.ownBlock] at hg
  · have : g' = g := by simpa [Value.ownBlock] using hg
    subst this
    rw [ho] at hh
    cases hh
    rfl
theorem notes_calls (s : ByteArray) (E : Nat) (w : World) : Calls Try.prog 54 #[.string s, .pointer (some ⟨E, 0, none⟩)] w fun e w' =>
    e = .returned (.func (.func 72) #[] #[.pointer (some ⟨w.heap.size, 0, none⟩), .pointer (some ⟨w.heap.size + 1, 0, none⟩)]) ∧ w' = (w.alloc (.cells #[.string s] 9)).alloc (.cells #[.pointer (some ⟨E, 0, none⟩)] 83) := by
  have hmf : ∀ (fn : Fn) (first cap : Array Value) (w : World), (Instr.makeFunc fn first cap).run Try.prog w = .ok (.func fn first cap) w := fun _ _ _ _ => rfl
  go_enter Try.func54, Try.ntmps54
  go_wp2
  go_ret
  exact ⟨rfl, rfl⟩
set_option maxHeartbeats 8000000 in
set_option maxRecDepth 100000 in
theorem journal_Decode.calls (a0 : ByteArray) (r1 : List S39) (r2 : Int) (r3 : Bool) (r4 : Int) (w : World) (h : journal_Decode.f a0 = some (r1, r2, r3, r4)) :
    Calls Try.prog 23 #[.string a0] w fun e w' => ∃ v0_ : Value, e = .returned (.tuple #[v0_, .int .i64 r2, .bool r3, .int .i64 r4]) ∧ Kd.R k39 39 w' w.heap.size (fun _ => True) v0_ r1 ∧ Below w.heap.size w w' := by
  refine (callsIn_wide (n := 3)).1 ?_
  unfold journal_Decode.f at h
  refine callsIn_of_wp_marks Try.func23 rfl trivial ?_ rfl
  simp only [Try.ntmps23, List.size_toArray, List.length_cons, List.length_nil, Nat.reduceAdd, Nat.reduceSub, Array.replicate_succ, Array.replicate_zero, List.push_toArray, List.append_toArray, List.nil_append, List.cons_append]
  by_cases hl : (a0.size : Int) > 65536
  · rw [if_pos hl] at h
    obtain ⟨rfl, rfl, rfl, rfl⟩ : [] = r1 ∧ 0 = r2 ∧ false = r3 ∧ 3 = r4 := by simpa using h
    have hd : decide ((65536 : Int) < (a0.size : Int)) = true := decide_eq_true hl
    gi_wp2
    refine ⟨.tuple #[.slice none 0 0, .int .i64 0, .bool false, .int .i64 3], by simp [results, Try.results23, go_sem], _, rfl, Kd.R_nil _ _ _ _ _, (Below.refl _ _).alloc (Nat.le_refl _) _⟩
  · rw [if_neg hl] at h
    have hd : decide ((65536 : Int) < (a0.size : Int)) = false := decide_eq_false hl
    obtain ⟨rfl, rfl, rfl, rfl⟩ : (decGo a0 (a0.size + 1) 0 0).1 = r1 ∧ (decGo a0 (a0.size + 1) 0 0).2.1 = r2 ∧ (decGo a0 (a0.size + 1) 0 0).2.2.2.1 = r3 ∧ (decGo a0 (a0.size + 1) 0 0).2.2.2.2 = r4 := by simpa using h
    have hb1 : Below w.heap.size w (w.alloc (.cells #[.slice none 0 0] 23)) := (Below.refl _ _).alloc (Nat.le_refl _) _
    have hL1 := heap_alloc_new w (.cells #[.slice none 0 0] 23)
    have hE2 := heap_alloc_new (w.alloc (.cells #[.slice none 0 0] 23)) (.cells #[.int .i64 0, .int .u64 0, .bool false, .int .i64 0] 79)
    have hs3 := heap_alloc_new ((w.alloc (.cells #[.slice none 0 0] 23)).alloc (.cells #[.int .i64 0, .int .u64 0, .bool false, .int .i64 0] 79)) (.cells #[.string a0] 9)
    have he4 := heap_alloc_new (((w.alloc (.cells #[.slice none 0 0] 23)).alloc (.cells #[.int .i64 0, .int .u64 0, .bool false, .int .i64 0] 79)).alloc (.cells #[.string a0] 9)) (.cells #[.pointer (some ⟨w.heap.size + 1, 0, none⟩)] 83)
    have hsz : (((( w.alloc (.cells #[.slice none 0 0] 23)).alloc (.cells #[.int .i64 0, .int .u64 0, .bool false, .int .i64 0] 79)).alloc (.cells #[.string a0] 9)).alloc (.cells #[.pointer (some ⟨w.heap.size + 1, 0, none⟩)] 83)).heap.size = w.heap.size + 4 := by simp
    have hb2 := hb1.alloc (by simp) (.cells #[.int .i64 0, .int .u64 0, .bool false, .int .i64 0] 79)
    have hb3 := hb2.alloc (by simp; omega) (.cells #[.string a0] 9)
    have hb4 := hb3.alloc (by simp; omega) (.cells #[.pointer (some ⟨w.heap.size + 1, 0, none⟩)] 83)
    replace hL1 := blk_alloc (blk_alloc (blk_alloc hL1 (.cells #[.int .i64 0, .int .u64 0, .bool false, .int .i64 0] 79)) (.cells #[.string a0] 9)) (.cells #[.pointer (some ⟨w.heap.size + 1, 0, none⟩)] 83)
    replace hE2 := blk_alloc (blk_alloc hE2 (.cells #[.string a0] 9)) (.cells #[.pointer (some ⟨w.heap.size + 1, 0, none⟩)] 83)
    replace hs3 := blk_alloc hs3 (.cells #[.pointer (some ⟨w.heap.size + 1, 0, none⟩)] 83)
    simp only [World.size_alloc] at hE2 hs3 he4
    gi_wp2_with (refine ⟨trivial, ?_⟩; gi_at_call 54; refine callsIn_wide.2 (Calls.mono (notes_calls a0 _ _) ?_); rintro e w3 ⟨rfl, rfl⟩)
    generalize (((w.alloc (.cells #[.slice none 0 0] 23)).alloc (.cells #[.int .i64 0, .int .u64 0, .bool false, .int .i64 0] 79)).alloc (.cells #[.string a0] 9)).alloc (.cells #[.pointer (some ⟨w.heap.size + 1, 0, none⟩)] 83) = W0 at hL1 hE2 hs3 he4 hsz hb4 ⊢
    clear hb1 hb2 hb3
    have hSt : St (w.heap.size + 1) 0 0 false 0 W0 := ⟨(blk_cell hE2 0).trans rfl, (blk_cell hE2 1).trans rfl, (blk_cell hE2 2).trans rfl, (blk_cell hE2 3).trans rfl, blk_frozen hE2 0, blk_frozen hE2 1, blk_frozen hE2 2, blk_frozen hE2 3⟩
    refine wpIn_range (F := Fence.wide) (n := 3) (w := W0) rfl (by omega) (gf := 72) (lb := #[.pointer (some ⟨w.heap.size + 1 + 1, 0, none⟩), .pointer (some ⟨w.heap.size + 1 + 1 + 1, 0, none⟩)]) rfl trivial (Go.Proofs.enters_of Try.func72 (by kernel_rfl) rfl) (fun _ => rfl) (E := w.heap.size + 1) (by omega)
      (notes1_seq 2 (w.heap.size + 1 + 1) (w.heap.size + 1 + 1 + 1) (w.heap.size + 1) a0 0 (by omega) W0 hs3 he4 hSt (by omega) (by omega)) ?hS
      (fun pre W => ∃ v, W.heap[w.heap.size]? = some (.cells #[v] 23 (0, 0)) ∧ k39.R 39 W w.heap.size (fun g => W0.heap.size + 3 ≤ g) v pre ∧ Below w.heap.size w W) ?hI ⟨_, hL1, Kd.R_nil _ _ _ _ _, hb4⟩
      (fun x a' W => ∃ N, N ≠ W0.heap.size + 1 ∧ W.heap[N]? = some (.cells #[.int .i64 x.f0, .int .i64 x.f1, .string x.f2, .bool x.f3, .string x.f4] 39 (0, 0)) ∧ a' = { tmps := #[.string a0, undef, .pointer (some ⟨w.heap.size, 0, none⟩), .int .i64 0, .bool false, .int .i64 0, .pointer (some ⟨w.heap.size + 1, 0, none⟩), .pointer (some ⟨N, 0, none⟩), .string a0, .int .i64 a0.size, .bool false, .string a0, .func (.func 72) #[] #[.pointer (some ⟨w.heap.size + 1 + 1, 0, none⟩), .pointer (some ⟨w.heap.size + 1 + 1 + 1, 0, none⟩)], .agg #[.int .i64 x.f0, .int .i64 x.f1, .string x.f2, .bool x.f3, .string x.f4], undef, undef, undef, undef, undef, undef, undef, undef, undef, undef, undef], defers := [] }) ?hAx ?assign ?body ?done
    case hS =>
      rintro xs A o ⟨u, sm, tn, e, hst, hd⟩
      exact ⟨u, sm, tn, e, hst.past ((But.refl (fun b => b = W0.heap.size + 1) A).put (Or.inl rfl) o) (by omega), hd⟩
    case hI =>
      rintro pre A B ⟨v, hv, hR, hB⟩ hb
      refine ⟨v, (hb.block _ (blk_lt hv) (by omega)).trans hv, Kd.R_step hR (fun k hk hlt => hb.block k hlt (by omega)), ?_⟩
      exact hB.trans (hb.below hB.size (fun k hk => by omega))
    case hAx =>
      rintro x a' A o ⟨N, hN, hb, ha⟩
      exact ⟨N, hN, (World.putObj_heap_other hN).trans hb, ha⟩
    case assign =>
      intro l pre x W K hWs hi hK
      gi_wp2
      exact hK _ _ ((Below.refl _ _).alloc (Nat.le_refl _) _) ⟨W.heap.size, by omega, heap_alloc_new _ _, rfl⟩
    case body =>
      rintro l pre x a' W hWs hN ⟨v, hv, hR, hB⟩ ⟨N, hNe, hNb, rfl⟩
      obtain ⟨f0, f1, f2, f3, f4⟩ := x
      have hc0 : W.cell? ⟨w.heap.size, 0, none⟩ = some v := (blk_cell hv 0).trans rfl
      have hn0 := (blk_cell hNb 0).trans rfl
      have hn1 := (blk_cell hNb 1).trans rfl
      have hn2 := (blk_cell hNb 2).trans rfl
      have hn3 := (blk_cell hNb 3).trans rfl
      have hn4 := (blk_cell hNb 4).trans rfl
      gi_wp2_with (gi_at_builtin; refine R39_append_in (W := W) w.heap.size rfl _ _ rfl v pre ⟨f0, f1, f2, f3, f4⟩ (fun g => W0.heap.size + 3 ≤ g) rfl rfl (fun k hk => by omega) hR (by omega) (by omega) ?_; intro v1 w1 hR1 hg1; have hv1 := blk_grown hv hg1 (fun e => by have := hR.1 _ e.symm; omega); have hc1 : w1.cell? ⟨w.heap.size, 0, none⟩ = some v := (blk_cell hv1 0).trans rfl; have hz1 := blk_frozen hv1 0; obtain ⟨A1, n1, c1, rfl⟩ := R39_slice hR1)
      have hL : w.heap.size < W0.heap.size := by omega
      refine ⟨⟨?_, ?_⟩, ⟨?_, ?_⟩, ?_⟩
      · have := hg1.size
        simpa [World.setCell] using this
      · intro k o hk ho hc
        rw [Below.heap_setCell _ _ _ _ (show k ≠ w.heap.size by omega)]
        exact (hg1.block k (Array.getElem?_eq_some_iff.1 ho).1 (fun e => by have := R39_own hR e.symm ho; rw [hc] at this; cases this)).trans ho
      · have := hg1.size
        simpa [World.setCell] using this
      · intro k o hk ho hc
        rw [Below.heap_setCell _ _ _ _ (show k ≠ w.heap.size by omega)]
        exact (hg1.block k (Array.getElem?_eq_some_iff.1 ho).1 (fun e => by have := hR.1 _ e.symm; omega)).trans ho
      · have hb9 := (hB.grown hg1 hB.size (fun k e => Kd.R_base hR _ e)).setCell (p := ⟨w.heap.size, 0, none⟩) (Nat.le_refl _) (.slice A1 n1 c1)
        have hr9 := Kd.R_step (w1 := w1.setCell ⟨w.heap.size, 0, none⟩ (.slice A1 n1 c1)) hR1 (fun k hk hlt => Below.heap_setCell _ _ _ _ (show k ≠ w.heap.size by omega))
        simp only [hsz] at hr9
        exact ⟨_, blk_put hv1 0 _ rfl, hr9, hb9⟩
    case done =>
      rintro xs W ⟨u, sm, tn, e, hst, hd⟩ ⟨v, hv, hR, hB⟩ hD
      have hc2 : W.cell? ⟨w.heap.size, 0, none⟩ = some v := (blk_cell hv 0).trans rfl
      have hz2 := blk_frozen hv 0
      have he0 := hst.c0
      have he2 := hst.c2
      have he3 := hst.c3
      gi_wp2
      refine wpIn_wide.2 ?_
      obtain ⟨A1, n1, c1, rfl⟩ := R39_slice hR
      have hst7 := hst.past (But.of_below (S := fun _ => False) (below_drew (Below.refl W.heap.size W))) (fun h => h)
      refine wp_region_noPanic ?_
      have hc7 : W.drew.cell? ⟨w.heap.size, 0, none⟩ = some (.slice A1 n1 c1) := hc2
      have hz7 : W.drew.frozen? ⟨w.heap.size, 0, none⟩ = false := hz2
      have he0 := hst7.c0
      have he2 := hst7.c2
      have he3 := hst7.c3
      have hL : w.heap.size ≠ W0.heap.size := by omega
      have hv8 : (W.setCell ⟨w.heap.size, 0, none⟩ (.slice A1 n1 c1)).drew.heap[w.heap.size]? = some (.cells #[.slice A1 n1 c1] 23 (0, 0)) := blk_put hv 0 (.slice A1 n1 c1) rfl
      have hR8 := Kd.R_step (w1 := (W.setCell ⟨w.heap.size, 0, none⟩ (.slice A1 n1 c1)).drew) hR (fun k hk hlt => Below.heap_setCell W _ _ _ (show k ≠ w.heap.size by omega))
      have hB8 := (hB.setCell (p := ⟨w.heap.size, 0, none⟩) (Nat.le_refl _) (.slice A1 n1 c1)).drew
      have hD8 : (W.setCell ⟨w.heap.size, 0, none⟩ (.slice A1 n1 c1)).drew.heap[W0.heap.size]? = some (.deferred (some [])) := (Below.heap_setCell W ⟨w.heap.size, 0, none⟩ (.slice A1 n1 c1) W0.heap.size (fun e => hL e.symm)).trans hD
      clear hv hR hB hD hc2 hz2 hst hst7
      go_region
      all_goals
        refine NoPanic.normal ?_
        gi_wp2
        generalize (W.setCell ⟨w.heap.size, 0, none⟩ (.slice A1 n1 c1)).drew = W8 at hv8 hR8 hB8 hD8 ⊢
        refine ⟨by simp, .inl ⟨_, _, rfl, run_takeDeferred hD8, ?_⟩⟩
        have hlt8 := blk_lt hD8
        have hv9 : (W8.putObj W0.heap.size (.deferred none)).heap[w.heap.size]? = some (.cells #[.slice A1 n1 c1] 23 (0, 0)) := (World.putObj_heap_other hL).trans hv8
        have hR9 := Kd.R_mono (Kd.R_step (w1 := W8.putObj W0.heap.size (.deferred none)) hR8 (fun k hk hlt => World.putObj_heap_other (by omega))) (ok' := fun _ => True) (fun _ _ => trivial)
        have hB9 : Below w.heap.size w (W8.putObj W0.heap.size (.deferred none)) := hB8.trans (((But.refl (fun b => b = W0.heap.size) W8).put (Or.inl rfl) (.deferred none)).below hB8.size (fun k hk => by omega))
        have hc9 : (W8.putObj W0.heap.size (.deferred none)).cell? ⟨w.heap.size, 0, none⟩ = some (.slice A1 n1 c1) := (blk_cell hv9 0).trans rfl
        (try rw [hd])
        refine ⟨.tuple #[.slice A1 n1 c1, .int .i64 u, .bool tn, .int .i64 e], by simp [results, Try.results23, go_sem, hc9], _, rfl, hR9, hB9⟩
end Go.Proofs.Yteblpjnkinghoaa.J
/- What the reference's look answers, its half-filled notes at early ends too; and that it is peek at the rest of the bytes. -/
set_option linter.unusedVariables false
set_option linter.unusedSimpArgs false
namespace Go.Proofs.Yteblpjnkinghoaa.J
open Go.RowKit Go.Proofs.YteblpjnkinghoaaW.PrintWords Go.Proofs.YteblpjnkinghoaaW.PrintLast Go.Proofs.YteblpjnkinghoaaW.PrintMore
abbrev LookR := S39 × Int × Int × Bool
def nil8 : ByteArray := ⟨#[]⟩
def lookT (s e : ByteArray) (n : S39) (sum : Int) (i : Int) : Nat → LookR
  | 0 => (n, i + 8, sum, false)
  | m + 1 => if i + (8 - (m + 1 : Nat)) = (s.size : Int) then (n, 0, 0, true) else if bt s (i + (8 - (m + 1 : Nat))) = bt e (8 - (m + 1 : Nat)) then lookT s e n sum i m else (n, 0, 0, false)
def look8 (s : ByteArray) (last kd u k has t : Int) : LookR :=
  lookT s (eightS (sumF last (s.extract 0 (8 + k + t).toNat))) ⟨kd, u, s.extract 5 (5 + k).toNat, decide (has = 1), s.extract (8 + k).toNat (8 + k + t).toNat⟩ (sumF last (s.extract 0 (8 + k + t).toNat)) (8 + k + t) 8
def look7 (s : ByteArray) (last kd u k has most t : Int) : LookR :=
  if t ≤ most ∧ (kd = 6 → 0 < t) then (if (s.size : Int) < 8 + k + t then (⟨kd, u, s.extract 5 (5 + k).toNat, decide (has = 1), nil8⟩, 0, 0, true) else look8 s last kd u k has t)
  else (⟨kd, u, s.extract 5 (5 + k).toNat, decide (has = 1), nil8⟩, 0, 0, false)
def look6 (s : ByteArray) (last kd u k has most : Int) : LookR :=
  if (s.size : Int) = 6 + k then (⟨kd, u, s.extract 5 (5 + k).toNat, decide (has = 1), nil8⟩, 0, 0, true)
  else if bt s (6 + k) * 256 ≤ most then
    (if (s.size : Int) = 7 + k then (⟨kd, u, s.extract 5 (5 + k).toNat, decide (has = 1), nil8⟩, 0, 0, true) else look7 s last kd u k has most (bt s (6 + k) * 256 + bt s (7 + k)))
  else (⟨kd, u, s.extract 5 (5 + k).toNat, decide (has = 1), nil8⟩, 0, 0, false)
def look5 (s : ByteArray) (last kd u k has : Int) : LookR :=
  if has = 0 ∨ has = 1 ∧ (kd = 2 ∨ kd = 3) then look6 s last kd u k has (if kd = 6 then 40 else if has = 1 then 4000 else 0) else (⟨kd, u, s.extract 5 (5 + k).toNat, false, nil8⟩, 0, 0, false)
def look4 (s : ByteArray) (last kd u k : Int) : LookR :=
  if k ≤ 40 ∧ ((kd = 2 ∨ kd = 3) ↔ 0 < k) then (if (s.size : Int) < 6 + k then (⟨kd, u, nil8, false, nil8⟩, 0, 0, true) else look5 s last kd u k (bt s (5 + k))) else (⟨kd, u, nil8, false, nil8⟩, 0, 0, false)
def look3 (s : ByteArray) (last kd u : Int) : LookR :=
  if u ≤ 1000 ∧ (kd = 6 ↔ u = 0) then (if (s.size : Int) = 4 then (⟨kd, u, nil8, false, nil8⟩, 0, 0, true) else look4 s last kd u (bt s 4)) else (⟨kd, u, nil8, false, nil8⟩, 0, 0, false)
def look2 (s : ByteArray) (last kd hg : Int) : LookR :=
  if hg ≤ 3 ∧ (kd = 6 → hg = 0) then (if (s.size : Int) = 3 then (⟨kd, 0, nil8, false, nil8⟩, 0, 0, true) else look3 s last kd (hg * 256 + bt s 3)) else (⟨kd, 0, nil8, false, nil8⟩, 0, 0, false)
def look1 (s : ByteArray) (last kd : Int) : LookR :=
  if 1 ≤ kd ∧ kd ≤ 7 then (if (s.size : Int) = 2 then (⟨kd, 0, nil8, false, nil8⟩, 0, 0, true) else look2 s last kd (bt s 2)) else (⟨kd, 0, nil8, false, nil8⟩, 0, 0, false)
def lookF (s : ByteArray) (last : Int) : LookR :=
  if (s.size : Int) = 0 then (⟨0, 0, nil8, false, nil8⟩, 0, 0, true)
  else if bt s 0 = 74 then (if (s.size : Int) = 1 then (⟨0, 0, nil8, false, nil8⟩, 0, 0, true) else look1 s last (bt s 1))
  else (⟨0, 0, nil8, false, nil8⟩, 0, 0, false)
/-- What peek says of the bytes from i on, look says of these bytes alone. -/
def Same (o : Out) (i : Int) (r : LookR) : Prop :=
  match o with
  | .torn => ∃ n, r = (n, 0, 0, true)
  | .wrong => ∃ n, r = (n, 0, 0, false)
  | .ok n sm fin => r = (n, fin - i, sm, false)
theorem same_tail (s t e : ByteArray) (n : S39) (sum i q : Int) (hsz : (t.size : Int) = s.size - i) (hbt : ∀ j : Int, 0 ≤ j → j < t.size → bt t j = bt s (i + j)) (hq : 0 ≤ q) (hq2 : q ≤ t.size) :
    ∀ m : Nat, m ≤ 8 → q + (8 - m) ≤ (t.size : Int) → Same (tailOut s e n sum (i + q) m) i (lookT t e n sum q m) := by
  intro m
  induction m with
  | zero =>
    intro _ _
    simp only [tailOut, lookT, Same]
    congr 2
    omega
  | succ m ih =>
    intro hm hle
    simp only [tailOut, lookT]
    by_cases h1 : q + (8 - (m + 1 : Nat)) = (t.size : Int)
    · rw [if_pos h1, if_pos (by omega)]
      exact ⟨_, rfl⟩
    · rw [if_neg h1, if_neg (by omega), hbt _ (by omega) (by omega), show i + (q + (8 - ((m + 1 : Nat) : Int))) = i + q + (8 - ((m + 1 : Nat) : Int)) by omega]
      split
      · exact ih (by omega) (by omega)
      · exact ⟨_, rfl⟩
/-- t is what is left of s from i on. -/
structure Rest (s t : ByteArray) (i : Int) : Prop where
  i0 : 0 ≤ i
  sz : (t.size : Int) = s.size - i
  bt_ : ∀ j : Int, 0 ≤ j → j < t.size → bt t j = bt s (i + j)
  ex : ∀ a b : Int, 0 ≤ a → a ≤ b → b ≤ t.size → t.extract a.toNat b.toNat = s.extract (i + a).toNat (i + b).toNat
theorem same8 {s t : ByteArray} {i : Int} (h : Rest s t i) (last kd u k has tt : Int) (hk : 0 ≤ k) (ht : 0 ≤ tt) (hle : 8 + k + tt ≤ t.size) : Same (peek8 s i last kd u k has tt) i (look8 t last kd u k has tt) := by
  unfold peek8 look8
  have e1 := h.ex 0 (8 + k + tt) (by omega) (by omega) hle
  have e2 := h.ex 5 (5 + k) (by omega) (by omega) (by omega)
  have e3 := h.ex (8 + k) (8 + k + tt) (by omega) (by omega) hle
  rw [show (0 : Int).toNat = 0 from rfl, show i + 0 = i by omega, show i + (8 + k + tt) = i + 8 + k + tt by omega] at e1
  rw [show (5 : Int).toNat = 5 from rfl, show i + (5 + k) = i + 5 + k by omega] at e2
  rw [show i + (8 + k) = i + 8 + k by omega, show i + (8 + k + tt) = i + 8 + k + tt by omega] at e3
  rw [e1, e2, e3, show i + 8 + k + tt = i + (8 + k + tt) by omega]
  exact same_tail s t _ _ _ i (8 + k + tt) h.sz h.bt_ (by omega) hle 8 (Nat.le_refl _) (by omega)
theorem same7 {s t : ByteArray} {i : Int} (h : Rest s t i) (last kd u k has most tt : Int) (hk : 0 ≤ k) (ht : 0 ≤ tt) : Same (peek7 s i last kd u k has most tt) i (look7 t last kd u k has most tt) := by
  have := h.sz
  unfold peek7 look7
  split
  · by_cases c : i + 8 + k + tt ≤ (s.size : Int)
    · rw [if_pos c, if_neg (show ¬ (t.size : Int) < 8 + k + tt by omega)]
      exact same8 h last kd u k has tt hk ht (by omega)
    · rw [if_neg c, if_pos (by omega)]
      exact ⟨_, rfl⟩
  · exact ⟨_, rfl⟩
theorem same6 {s t : ByteArray} {i : Int} (h : Rest s t i) (last kd u k has most : Int) (hk : 0 ≤ k) (hle : 6 + k ≤ t.size) : Same (peek6 s i last kd u k has most) i (look6 t last kd u k has most) := by
  have := h.sz
  unfold peek6 look6
  by_cases c : i + 6 + k < (s.size : Int)
  · rw [if_pos c, if_neg (show ¬ (t.size : Int) = 6 + k by omega), h.bt_ (6 + k) (by omega) (by omega), show i + (6 + k) = i + 6 + k by omega]
    have r6 := bt_range s (i + 6 + k)
    by_cases c2 : bt s (i + 6 + k) ≤ most / 256
    · rw [if_pos c2, if_pos (show bt s (i + 6 + k) * 256 ≤ most by omega)]
      by_cases c3 : i + 7 + k < (s.size : Int)
      · rw [if_pos c3, if_neg (show ¬ (t.size : Int) = 7 + k by omega), h.bt_ (7 + k) (by omega) (by omega), show i + (7 + k) = i + 7 + k by omega]
        have r7 := bt_range s (i + 7 + k)
        exact same7 h last kd u k has most _ hk (by omega)
      · rw [if_neg c3, if_pos (by omega)]
        exact ⟨_, rfl⟩
    · rw [if_neg c2, if_neg (show ¬ bt s (i + 6 + k) * 256 ≤ most by omega)]
      exact ⟨_, rfl⟩
  · rw [if_neg c, if_pos (by omega)]
    exact ⟨_, rfl⟩
theorem same5 {s t : ByteArray} {i : Int} (h : Rest s t i) (last kd u k has : Int) (hk : 0 ≤ k) (hle : 6 + k ≤ t.size) : Same (peek5 s i last kd u k has) i (look5 t last kd u k has) := by
  unfold peek5 look5
  split
  · exact same6 h last kd u k has _ hk hle
  · exact ⟨_, rfl⟩
theorem same4 {s t : ByteArray} {i : Int} (h : Rest s t i) (last kd u k : Int) (hk : 0 ≤ k) : Same (peek4 s i last kd u k) i (look4 t last kd u k) := by
  have := h.sz
  unfold peek4 look4
  split
  · by_cases c : i + 5 + k < (s.size : Int)
    · rw [if_pos c, if_neg (show ¬ (t.size : Int) < 6 + k by omega), h.bt_ (5 + k) (by omega) (by omega), show i + (5 + k) = i + 5 + k by omega]
      exact same5 h last kd u k _ hk (by omega)
    · rw [if_neg c, if_pos (by omega)]
      exact ⟨_, rfl⟩
  · exact ⟨_, rfl⟩
theorem same3 {s t : ByteArray} {i : Int} (h : Rest s t i) (last kd u : Int) (hle : 4 ≤ (t.size : Int)) : Same (peek3 s i last kd u) i (look3 t last kd u) := by
  have := h.sz
  unfold peek3 look3
  split
  · by_cases c : i + 4 < (s.size : Int)
    · rw [if_pos c, if_neg (show ¬ (t.size : Int) = 4 by omega), h.bt_ 4 (by omega) (by omega)]
      exact same4 h last kd u _ (bt_range s (i + 4)).1
    · rw [if_neg c, if_pos (by omega)]
      exact ⟨_, rfl⟩
  · exact ⟨_, rfl⟩
/-- look at the rest is peek. -/
theorem look_peek {s t : ByteArray} {i : Int} (h : Rest s t i) (last : Int) : Same (peek s i last) i (lookF t last) := by
  have hs := h.sz
  have h0 := h.i0
  unfold peek lookF
  by_cases c : i < (s.size : Int)
  · have b0 := h.bt_ 0 (by omega) (by omega)
    rw [show i + 0 = i by omega] at b0
    rw [if_pos c, if_neg (show ¬ (t.size : Int) = 0 by omega), b0]
    split
    · unfold peek1
      by_cases c1 : i + 1 < (s.size : Int)
      · rw [if_pos c1, if_neg (show ¬ (t.size : Int) = 1 by omega), h.bt_ 1 (by omega) (by omega)]
        unfold look1
        split
        · unfold peek2
          by_cases c2 : i + 2 < (s.size : Int)
          · rw [if_pos c2, if_neg (show ¬ (t.size : Int) = 2 by omega), h.bt_ 2 (by omega) (by omega)]
            unfold look2
            split
            · by_cases c3 : i + 3 < (s.size : Int)
              · rw [if_pos c3, if_neg (show ¬ (t.size : Int) = 3 by omega), h.bt_ 3 (by omega) (by omega)]
                exact same3 h last _ _ (by omega)
              · rw [if_neg c3, if_pos (show (t.size : Int) = 3 by omega)]
                exact ⟨_, rfl⟩
            · exact ⟨_, rfl⟩
          · rw [if_neg c2, if_pos (show (t.size : Int) = 2 by omega)]
            exact ⟨_, rfl⟩
        · exact ⟨_, rfl⟩
      · rw [if_neg c1, if_pos (show (t.size : Int) = 1 by omega)]
        exact ⟨_, rfl⟩
    · exact ⟨_, rfl⟩
  · rw [if_neg c, if_pos (by omega)]
    exact ⟨_, rfl⟩
end Go.Proofs.Yteblpjnkinghoaa.J
/- The reference's eight and Sum are the program's. (The walk of eight: the kit's printer's, its name turned.) -/
namespace Go.Proofs.Yteblpjnkinghoaa.J
open Go.RowKit Go.Proofs.YteblpjnkinghoaaW.PrintWords Go.Proofs.YteblpjnkinghoaaW.PrintLast Go.Proofs.YteblpjnkinghoaaW.PrintMore
attribute [local go_sem] max2_int min2_int max_two min_two max_three min_three max_four min_four   -- for this text's walks alone
set_option linter.unusedVariables false
set_option linter.unusedSimpArgs false
/-! ### rEight: function 63 -/
def rEight.l0 : Nat → Int → List Int → Int → Option (ByteArray)
  | 0, _, _, _ => none
  | k + 1, x0, x3, x4 => if x4 ≥ 0 then (if 0 ≤ (IntKind.u64.wrap (x4)) then (if x3.length < 140737488355328 then (rEight.l0 k x0 (x3 ++ [(shr .u64 x0 (IntKind.u64.wrap (x4))) % 256]) (wrap64 (x4 - 8))) else (none)) else (none)) else (some (strOfNums x3))
def rEight.f (k : Nat) (a0 : Int) : Option (ByteArray) := rEight.l0 k a0 ([] : List Int) 56
set_option maxHeartbeats 8000000 in
set_option maxRecDepth 100000 in
theorem rEight.calls (k : Nat) (a0 : Int) (r : ByteArray) (w : World) (h : rEight.f k a0 = some r) :
    Calls Try.prog 63 #[.int .u64 a0] w fun e w' => e = .returned (.string r) ∧ Below w.heap.size w w' := by
  have HB := Aside0.mk (Below.refl w.heap.size w)
  have H : (rEight.l0 k a0 ([] : List Int) 56) = some r := h
  clear h
  have H' := Aside0.mk H
  clear H
  go_enter Try.func63, Try.ntmps63
  go_wp2
  go_loopg [3, 4] k (fun kq v3 v4 w' => ∃ (x3_1 : List Int) (x4_1 : Int), v4 = .int .i64 x4_1 ∧ Aside0 (rEight.l0 kq a0 x3_1 x4_1 = some r) ∧ Aside0 (kq ≤ k) ∧ Aside0 (Kd.R (Kd.int .u8) 5 w' w.heap.size (fun _ => True) v3 x3_1) ∧ Aside0 (Below w.heap.size w w'))
  case atStart => exact ⟨(([] : List Int)), (56), (by first | rfl | (simp; done) | (simp [*]; done)), H', ⟨Nat.le_refl _⟩, ⟨by first | exact Kd.R_nil _ _ _ _ _ | exact Kd.N_nil _ _ _ _ _ | exact Kd.V_nil _ _ _ _ _ | exact Kd.Q_nil _ _ _ _ _ | exact Kd.S_nil _ _ _ _ _⟩, ⟨by repeat (first | (with_reducible first | exact HB.out | apply below_alloc | apply pw_below_drewN | apply below_drew1) | exact HB.out)⟩⟩
  case round =>
    clear H'
    obtain ⟨x3_1, x4_1, rfl, HA, HK1, HO_3, HB⟩ := hrel
    cases gk with
    | zero => exact absurd HA.out (by simp [rEight.l0])
    | succ k1 =>
      have H := HA.out
      clear HA
      simp only [rEight.l0] at H
      by_cases c2 : x4_1 ≥ 0
      · rw [if_pos c2] at H
        have c2b0 : decide (0 ≤ x4_1) = true := decide_eq_true c2
        clear c2
        obtain ⟨ji3, hji3⟩ : ∃ j_ : Int, (IntKind.u64.wrap (x4_1)) = j_ := ⟨_, rfl⟩
        replace H : (if 0 ≤ (ji3) then (if x3_1.length < 140737488355328 then (rEight.l0 k1 a0 (x3_1 ++ [(shr .u64 a0 (ji3)) % 256]) (wrap64 (x4_1 - 8))) else (none)) else (none)) = some r := by first | (rw [hji3] at H; exact H) | (simp only [hji3] at H ⊢; exact H)
        by_cases c4 : 0 ≤ (ji3)
        · rw [if_pos c4] at H
          have c4b0 := eq_true c4
          have c4b1 : decide (0 ≤ (ji3)) = true := decide_eq_true c4
          clear c4
          obtain ⟨ji5, hji5⟩ : ∃ j_ : Int, (shr .u64 a0 (ji3)) = j_ := ⟨_, rfl⟩
          replace H : (if x3_1.length < 140737488355328 then (rEight.l0 k1 a0 (x3_1 ++ [(ji5) % 256]) (wrap64 (x4_1 - 8))) else (none)) = some r := by first | (rw [hji5] at H; exact H) | (simp only [hji5] at H ⊢; exact H)
          have hji5_ : (a0 / 2 ^ min (ji3).toNat 64) = ji5 := hji5
          have hji5z : (ji3) ≤ 64 → (a0 / 2 ^ (ji3).toNat) = ji5 := shr_small hji5
          by_cases c6 : x3_1.length < 140737488355328
          · rw [if_pos c6] at H
            have LMc6 := Aside0.mk c6
            clear c6
            obtain ⟨y118, hy118⟩ : ∃ y_ : List Int, y_ = (x3_1 ++ [(ji5) % 256]) := ⟨_, rfl⟩
            replace H : (rEight.l0 k1 a0 y118 (wrap64 (x4_1 - 8))) = some r := by first | (rw [hy118]; with_reducible exact H) | (have H2_ := (Option.bind_some _ _).symm.trans H; rw [hy118]; with_reducible exact H2_) | (have H2_ := (Option.bind_some _ _).symm.trans H; with_reducible exact H2_) | with_reducible exact H | (rw [hy118]; exact H) | exact H
            have Ny118 := Aside0.mk hy118
            clear hy118
            have H' := Aside0.mk H
            clear H
            go_wp2_with (first | ((with_reducible refine gate_builtin (b := .append) (xs := #[.tmp 9, .tmp 15]) rfl ?_); at_builtin; refine Kd.R_append (Kd.int .u8) (w0 := w) w.heap.size rfl (.tmp 9) (.tmp 15) 53 5 (.int .u8 0) 1 rfl Try.underlying53 info5 rfl (by decide) (by omega) u3 x3_1 ((ji5) % 256) [.int .u8 ((ji5) % 256)] (fun _ => True) (fun _ => False) rfl rfl ?aP (fun _ hk => hk.elim) ?aF ?aO ?aB ?aS ?aL ?_; (case aP => exact rfl); (case aB => exact (by repeat (first | (with_reducible first | exact HB.out | apply below_alloc | apply pw_below_drewN | apply below_drew1) | exact HB.out))); (case aF => exact (fun _ _ => trivial)); (case aO => exact (by (with_reducible repeat (first | apply Kd.R_alloc | apply Kd.R_drewN | apply Kd.R_drew)); exact HO_3.out)); (case aS => exact (below_size (by repeat (first | (with_reducible first | exact HB.out | apply below_alloc | apply pw_below_drewN | apply below_drew1) | exact HB.out)))); (case aL => have := LMc6.out; omega); intro v119 w7 ho hb hg hat; rw [← Ny118.out] at ho; have n0_ := Aside0.mk (hb); have n1_ := Aside0.mk (ho); clear HB; clear HO_3; have HB := n0_; have HO120 := n1_; clear n0_ n1_; clear ho hb hg hat))
            go_roundg k1
            case measure => have := HK1.out; omega
            case rel => exact ⟨(y118), (wrap64 (x4_1 - 8)), (by first | rfl | (simp; done) | (simp [*]; done)), H', ⟨by have := HK1.out; omega⟩, ⟨by (with_reducible repeat (first | apply Kd.R_alloc | apply Kd.R_drewN | apply Kd.R_drew)); exact HO120.out⟩, ⟨by repeat (first | (with_reducible first | exact HB.out | apply below_alloc | apply pw_below_drewN | apply below_drew1) | exact HB.out)⟩⟩
          · rw [if_neg c6] at H
            exact absurd H (by simp)
        · rw [if_neg c4] at H
          exact absurd H (by simp)
      · rw [if_neg c2] at H
        have c2b0 : decide (0 ≤ x4_1) = false := decide_eq_false c2
        clear c2
        obtain rfl := Option.some.inj H
        have hcv8 := own_string (P := Try.prog) Try.underlying53 Try.underlying5 Try.underlying9 (Kd.own_of_R HO_3.out)
        go_wp2
        go_ret
        exact ⟨by first | rfl | (simp [errW_none, errW_some] <;> rfl) | (simp [*, errW_none, errW_some] <;> rfl), by repeat (first | (with_reducible first | exact HB.out | apply below_alloc | apply pw_below_drewN | apply below_drew1) | exact HB.out)⟩


theorem ix (s : ByteArray) (i : Int) (h0 : 0 ≤ i) (h1 : i < (s.size : Int)) (W : World) : (Instr.index 9 (.string s) (.int .i64 i)).run Try.prog W = .ok (.int .u8 (bt s i)) W := by
  rw [run_index_string W 9 s .i64 i Try.underlying9, dif_pos ⟨h0, h1⟩, ← bt_at s i (by omega)]
theorem eight_step (k : Nat) (n : Int) (xs : List Int) (x y z : Int) (h0 : 0 ≤ x) (hx : x < 100) (hl : xs.length < 1000) (hy : y = x - 8) (hz : shr .u64 n x = z) : rEight.l0 (k + 1) n xs x = rEight.l0 k n (xs ++ [z % 256]) y := by
  have hw : IntKind.u64.wrap x = x := by simp [IntKind.wrap, IntKind.bits, IntKind.signed]; omega
  rw [rEight.l0, if_pos h0, hw, if_pos h0, if_pos (by omega), hz, show wrap64 (x - 8) = y by unfold wrap64; omega]
theorem eight_f (k : Nat) (n : Int) : rEight.f (k + 9) n = some (eightS n) := by
  unfold rEight.f
  rw [show k + 9 = k + 8 + 1 from rfl, eight_step (k + 8) n _ 56 48 (n / 72057594037927936) (by decide) (by decide) (by decide) (by decide) (by rfl),
    show k + 8 = k + 7 + 1 from rfl, eight_step (k + 7) n _ 48 40 (n / 281474976710656) (by decide) (by decide) (by simp) (by decide) (by rfl),
    show k + 7 = k + 6 + 1 from rfl, eight_step (k + 6) n _ 40 32 (n / 1099511627776) (by decide) (by decide) (by simp) (by decide) (by rfl),
    show k + 6 = k + 5 + 1 from rfl, eight_step (k + 5) n _ 32 24 (n / 4294967296) (by decide) (by decide) (by simp) (by decide) (by rfl),
    show k + 5 = k + 4 + 1 from rfl, eight_step (k + 4) n _ 24 16 (n / 16777216) (by decide) (by decide) (by simp) (by decide) (by rfl),
    show k + 4 = k + 3 + 1 from rfl, eight_step (k + 3) n _ 16 8 (n / 65536) (by decide) (by decide) (by simp) (by decide) (by rfl),
    show k + 3 = k + 2 + 1 from rfl, eight_step (k + 2) n _ 8 0 (n / 256) (by decide) (by decide) (by simp) (by decide) (by rfl),
    show k + 2 = k + 1 + 1 from rfl, eight_step (k + 1) n _ 0 (-8) n (by decide) (by decide) (by simp) (by decide) (by simp [shr]), rEight.l0, if_neg (by decide)]
  rfl
def ringworkref25_eight.f (a0 : Int) : Option ByteArray := some (eightS a0)
theorem ringworkref25_eight.calls (a0 : Int) (r : ByteArray) (w : World) (h : ringworkref25_eight.f a0 = some r) :
    Calls Try.prog 63 #[.int .u64 a0] w fun e w' => e = .returned (.string r) ∧ Below w.heap.size w w' := by
  obtain rfl := Option.some.inj h
  exact rEight.calls 9 a0 _ w (eight_f 0 a0)
theorem rSum_calls (last : Int) (s : ByteArray) (hs : s.size ≤ 1000000) (w : World) : Calls Try.prog 31 #[.int .u64 last, .string s] w fun e w' => e = .returned (.int .u64 (sumF last s)) ∧ Below w.heap.size w w' := by
  obtain ⟨r, hr⟩ : ∃ r, sumF last s = r := ⟨_, rfl⟩
  rw [hr]
  unfold sumF at hr
  have hsz : (eightS last ++ s).size ≤ 1000008 := by rw [ByteArray.size_append, eightS_size]; omega
  have hno : (9223372036854775807 < (eightS last).size + s.size) = False := eq_false (by rw [eightS_size]; omega)
  go_enter Try.func31, Try.ntmps31
  go_wp2_with (go_at_call 63; refine (ringworkref25_eight.calls last _ _ rfl).mono ?_; rintro e w2 ⟨rfl, hb2⟩)
  clear hno
  generalize eightS last ++ s = t at hr hsz ⊢
  go_loopg [5, 7] (t.size + 1) (fun kq v5 v7 w' => ∃ (h : Int) (j : Nat), v5 = .int .u64 h ∧ v7 = .int .i64 (j : Int) ∧ j ≤ t.size ∧ kq = t.size - j + 1 ∧ sumGo t (t.size - j) h = r ∧ w' = w2)
  case atStart => exact ⟨14695981039346656037, 0, rfl, rfl, Nat.zero_le _, rfl, hr, rfl⟩
  case round =>
    obtain ⟨h, j, rfl, rfl, hj, rfl, hg, rfl⟩ := hrel
    by_cases hlt : j < t.size
    · have hd : decide ((j : Int) < (t.size : Int)) = true := decide_eq_true (by omega)
      have hx := ix t j (by omega) (by omega)
      have hbr := bt_range t j
      have hst : t.size - j = (t.size - (j + 1)) + 1 := by omega
      rw [hst, sumGo, show ((t.size : Int) - ((t.size - (j + 1) + 1 : Nat) : Int)) = (j : Int) by omega] at hg
      have hu : IntKind.u64.wrap (bt t j) = bt t j := by simp [IntKind.wrap, IntKind.bits, IntKind.signed]; omega
      unfold sumStep at hg
      rw [hu] at hg
      go_wp2
      go_roundg (t.size - (j + 1) + 1)
      case measure => omega
      case rel => exact ⟨_, j + 1, rfl, by push_cast; rfl, by omega, rfl, hg, rfl⟩
    · have hd : decide ((j : Int) < (t.size : Int)) = false := decide_eq_false (by omega)
      go_wp2
      go_ret
      rw [show t.size - j = 0 by omega, sumGo] at hg
      exact ⟨by rw [hg]; rfl, hb2⟩
end Go.Proofs.Yteblpjnkinghoaa.J
/- The reference's look: its contract (under way). -/
set_option linter.unusedVariables false
set_option linter.unusedSimpArgs false
namespace Go.Proofs.Yteblpjnkinghoaa.J
open Go.RowKit Go.Proofs.YteblpjnkinghoaaW.PrintWords Go.Proofs.YteblpjnkinghoaaW.PrintLast Go.Proofs.YteblpjnkinghoaaW.PrintMore
theorem sl (s : ByteArray) (a b : Int) (h0 : 0 ≤ a) (h1 : a ≤ b) (h2 : b ≤ (s.size : Int)) (W : World) : (Instr.slice 9 (.string s) (some (.int .i64 a)) (some (.int .i64 b)) none).run Try.prog W = .ok (.string (s.extract a.toNat b.toNat)) W := by
  rw [run_slice_string_if _ _ _ _ _ _ _ Try.underlying9, if_pos ⟨by omega, h2⟩, if_pos ⟨h0, h1⟩]
theorem lay39_below {B : Nat} {a w : World} {Z : Nat} (h : Below B a w) (hZ : B ≤ Z) (n : S39) : Below B a (lay39 w Z n) :=
  ((((h.setCell (p := ⟨Z, 0, none⟩) hZ _).setCell (p := ⟨Z, 1, none⟩) hZ _).setCell (p := ⟨Z, 2, none⟩) hZ _).setCell (p := ⟨Z, 3, none⟩) hZ _).setCell (p := ⟨Z, 4, none⟩) hZ _
/-- One of look's many ends: the note is loaded and laid back, the other results are handed back. -/
theorem look_end (T : Array Value) (w0 w : World) (Z : Nat) (n : S39) (sz sm : Int) (tn : Bool) (h4 : T.getD 4 undef = .pointer (some ⟨Z, 0, none⟩)) (h5 : T.getD 5 undef = .int .i64 sz) (h6 : T.getD 6 undef = .int .u64 sm) (h7 : T.getD 7 undef = .bool tn)
    (hb : w.heap[Z]? = some (.cells #[.int .i64 n.f0, .int .i64 n.f1, .string n.f2, .bool n.f3, .string n.f4] 39 (0, 0))) (hB : Below w0.heap.size w0 w) (hZ : w0.heap.size ≤ Z) (r : LookR) (hr : r = (n, sz, sm, tn)) :
    bodyPost Try.prog Try.f55 (fun e w' => e = .returned (.tuple #[.agg #[.int .i64 r.1.f0, .int .i64 r.1.f1, .string r.1.f2, .bool r.1.f3, .string r.1.f4], .int .i64 r.2.1, .int .u64 r.2.2.1, .bool r.2.2.2]) ∧ Below w0.heap.size w0 w') Exit.ret { tmps := T, defers := [] } (lay39 w Z n) := by
  subst hr
  have hres := results_list (P := Try.prog) (fn := Try.f55) (tmps := T) (w := lay39 w Z n) (rs := [.cell 4 39, .tmp 5, .tmp 6, .tmp 7]) rfl (by simp) (.cell Z 39 #[.int .i64 n.f0, .int .i64 n.f1, .string n.f2, .bool n.f3, .string n.f4] (0, 0) _ h4 (lay39_blk hb n) Try.underlying39 rfl (by kernel_rfl) (.tmp (.tmp (.tmp .nil))))
  rw [h5, h6, h7] at hres
  exact bodyPost_ret hres rfl ⟨rfl, lay39_below hB hZ n⟩
/-- The note's cells, for the walk. -/
theorem nt_of_blk {Z : Nat} {n : S39} {w : World} (h : w.heap[Z]? = some (.cells #[.int .i64 n.f0, .int .i64 n.f1, .string n.f2, .bool n.f3, .string n.f4] 39 (0, 0))) : Nt Z n.f0 n.f1 n.f2 n.f3 n.f4 w := Nt.new h
set_option maxHeartbeats 8000000 in
set_option maxRecDepth 100000 in
theorem look_calls (s : ByteArray) (last : Int) (hs : s.size ≤ 1000000) (w : World) : Calls Try.prog 55 #[.string s, .int .u64 last] w fun e w' =>
    e = .returned (.tuple #[.agg #[.int .i64 (lookF s last).1.f0, .int .i64 (lookF s last).1.f1, .string (lookF s last).1.f2, .bool (lookF s last).1.f3, .string (lookF s last).1.f4], .int .i64 (lookF s last).2.1, .int .u64 (lookF s last).2.2.1, .bool (lookF s last).2.2.2]) ∧ Below w.heap.size w w' := by
  obtain ⟨r, hr⟩ : ∃ r, lookF s last = r := ⟨_, rfl⟩
  rw [hr]
  have hB : Below w.heap.size w (w.alloc nil39) := (Below.refl _ _).alloc (Nat.le_refl _) _
  have hb : (w.alloc nil39).heap[w.heap.size]? = some nil39 := heap_alloc_new _ _
  have hZ : w.heap.size ≤ w.heap.size := Nat.le_refl _
  unfold lookF at hr
  go_enter Try.func55, Try.ntmps55
  go_upto_region 1 with (fail)
  generalize w.alloc nil39 = w1 at hB hb ⊢
  have hnt := nt_of_blk (n := ⟨0, 0, nil8, false, nil8⟩) hb
  have hn0 := hnt.c0
  have hn1 := hnt.c1
  have hn2 := hnt.c2
  have hn3 := hnt.c3
  have hn4 := hnt.c4
  have hy0 := hnt.z0
  have hy1 := hnt.z1
  have hy2 := hnt.z2
  have hy3 := hnt.z3
  have hy4 := hnt.z4
  by_cases c0 : (s.size : Int) = 0
  · rw [if_pos c0] at hr
    have d0 : ((s.size : Int) == 0) = true := beq_iff_eq.mpr c0
    go_wp2
    exact look_end _ w w1 w.heap.size ⟨0, 0, nil8, false, nil8⟩ 0 0 true (by rfl) (by rfl) (by rfl) (by rfl) hb hB hZ r hr.symm
  rw [if_neg c0] at hr
  have d0 : ((s.size : Int) == 0) = false := beq_eq_false_iff_ne.mpr c0
  go_upto_region 3 with (fail)
  have q7 : (0 < s.size) = True := eq_true (by omega)
  have qi7 : (0 < (s.size : Int)) = True := eq_true (by omega)
  have hx7 : ∀ h : 0 < s.size, ((s[0]'h).toNat : Int) = bt s 0 := bt_at s 0
  by_cases c1 : bt s 0 = 74
  rotate_left
  · rw [if_neg c1] at hr
    have d1 : (bt s 0 != 74) = true := by simp [c1]
    go_wp2
    exact look_end _ w w1 w.heap.size ⟨0, 0, nil8, false, nil8⟩ 0 0 false (by rfl) (by rfl) (by rfl) (by rfl) hb hB hZ r hr.symm
  rw [if_pos c1] at hr
  have d1 : (bt s 0 != 74) = false := by simp [c1]
  go_upto_region 5 with (fail)
  clear q7 qi7 hx7 d0 d1
  by_cases c2 : (s.size : Int) = 1
  · rw [if_pos c2] at hr
    have d2 : ((s.size : Int) == 1) = true := beq_iff_eq.mpr c2
    go_wp2
    exact look_end _ w w1 w.heap.size ⟨0, 0, nil8, false, nil8⟩ 0 0 true (by rfl) (by rfl) (by rfl) (by rfl) hb hB hZ r hr.symm
  rw [if_neg c2] at hr
  have d2 : ((s.size : Int) == 1) = false := beq_eq_false_iff_ne.mpr c2
  go_upto_region 7 with (fail)
  clear d2
  have q7 : (1 < s.size) = True := eq_true (by omega)
  have qi7 : (1 < (s.size : Int)) = True := eq_true (by omega)
  have hx7 : ∀ h : 1 < s.size, ((s[1]'h).toNat : Int) = bt s 1 := bt_at s 1
  have hkr := bt_range s 1
  go_upto_region 8 with (fail)
  clear q7 qi7 hx7
  generalize bt s 1 = kd at hr hkr ⊢
  have hb2 : (w1.setCell ⟨w.heap.size, 0, none⟩ (.int .i64 kd)).heap[w.heap.size]? = some (.cells #[.int .i64 kd, .int .i64 0, .string nil8, .bool false, .string nil8] 39 (0, 0)) := blk_put hb 0 _ rfl
  replace hB := hB.setCell (p := ⟨w.heap.size, 0, none⟩) hZ (.int .i64 kd)
  clear hn0 hn1 hn2 hn3 hn4 hy0 hy1 hy2 hy3 hy4 hnt hb
  have hb := hb2
  clear hb2
  generalize w1.setCell ⟨w.heap.size, 0, none⟩ (.int .i64 kd) = w2 at hb hB ⊢
  have hnt := nt_of_blk (n := ⟨kd, 0, nil8, false, nil8⟩) hb
  have hn0 := hnt.c0
  have hn1 := hnt.c1
  have hn2 := hnt.c2
  have hn3 := hnt.c3
  have hn4 := hnt.c4
  have hy0 := hnt.z0
  have hy1 := hnt.z1
  have hy2 := hnt.z2
  have hy3 := hnt.z3
  have hy4 := hnt.z4
  unfold look1 at hr
  by_cases c3 : 1 ≤ kd ∧ kd ≤ 7
  rotate_left
  · rw [if_neg c3] at hr
    by_cases c4 : kd < 1
    · have d3 : decide (kd < 1) = true := decide_eq_true c4
      go_wp2
      exact look_end _ w w2 w.heap.size ⟨kd, 0, nil8, false, nil8⟩ 0 0 false (by rfl) (by rfl) (by rfl) (by rfl) hb hB hZ r hr.symm
    · have d3 : decide (kd < 1) = false := decide_eq_false c4
      have d4 : decide (7 < kd) = true := decide_eq_true (by omega)
      go_wp2
      exact look_end _ w w2 w.heap.size ⟨kd, 0, nil8, false, nil8⟩ 0 0 false (by rfl) (by rfl) (by rfl) (by rfl) hb hB hZ r hr.symm
  rw [if_pos c3] at hr
  have d3 : decide (kd < 1) = false := decide_eq_false (by omega)
  have d4 : decide (7 < kd) = false := decide_eq_false (by omega)
  go_upto_region 10 with (fail)
  clear d3 d4
  by_cases c5 : (s.size : Int) = 2
  · rw [if_pos c5] at hr
    have d5 : ((s.size : Int) == 2) = true := beq_iff_eq.mpr c5
    go_wp2
    exact look_end _ w w2 w.heap.size ⟨kd, 0, nil8, false, nil8⟩ 0 0 true (by rfl) (by rfl) (by rfl) (by rfl) hb hB hZ r hr.symm
  rw [if_neg c5] at hr
  have d5 : ((s.size : Int) == 2) = false := beq_eq_false_iff_ne.mpr c5
  go_upto_region 12 with (fail)
  clear d5
  have q7 : (2 < s.size) = True := eq_true (by omega)
  have qi7 : (2 < (s.size : Int)) = True := eq_true (by omega)
  have hx7 : ∀ h : 2 < s.size, ((s[2]'h).toNat : Int) = bt s 2 := bt_at s 2
  have hgr := bt_range s 2
  unfold look2 at hr
  by_cases c6 : bt s 2 ≤ 3 ∧ (kd = 6 → bt s 2 = 0)
  rotate_left
  · rw [if_neg c6] at hr
    by_cases c7 : 3 < bt s 2
    · have d7 : decide (3 < bt s 2) = true := decide_eq_true c7
      go_wp2
      exact look_end _ w w2 w.heap.size ⟨kd, 0, nil8, false, nil8⟩ 0 0 false (by rfl) (by rfl) (by rfl) (by rfl) hb hB hZ r hr.symm
    · have d7 : decide (3 < bt s 2) = false := decide_eq_false c7
      have d8 : (kd == 6) = true := beq_iff_eq.mpr (by omega)
      have d9 : (bt s 2 != 0) = true := bne_iff_ne.mpr (by omega)
      have c8 : kd = 6 := by omega
      clear c8
      go_wp2
      exact look_end _ w w2 w.heap.size ⟨kd, 0, nil8, false, nil8⟩ 0 0 false (by rfl) (by rfl) (by rfl) (by rfl) hb hB hZ r hr.symm
  rw [if_pos c6] at hr
  have d7 : decide (3 < bt s 2) = false := decide_eq_false (by omega)
  go_cut [56] from 44 to 56 (fun v56 wc => v56 = .bool false ∧ wc = w2)
  case first =>
    by_cases c7 : kd = 6
    · have d8 : (kd == 6) = true := beq_iff_eq.mpr c7
      have d9 : (bt s 2 != 0) = false := by rw [c6.2 c7]; rfl
      clear c7
      go_wp2
      go_meet
      case rel => exact ⟨rfl, rfl⟩
    · have d8 : (kd == 6) = false := beq_eq_false_iff_ne.mpr c7
      clear c7
      go_wp2
      go_meet
      case rel => exact ⟨rfl, rfl⟩
  obtain ⟨rfl, rfl⟩ := hcut
  clear d7 q7 qi7 hx7
  by_cases c9 : (s.size : Int) = 3
  · rw [if_pos c9] at hr
    have d9 : ((s.size : Int) == 3) = true := beq_iff_eq.mpr c9
    go_wp2
    exact look_end _ w wc w.heap.size ⟨kd, 0, nil8, false, nil8⟩ 0 0 true (by rfl) (by rfl) (by rfl) (by rfl) hb hB hZ r hr.symm
  rw [if_neg c9] at hr
  have d9 : ((s.size : Int) == 3) = false := beq_eq_false_iff_ne.mpr c9
  go_upto_region 16 with (fail)
  clear d9
  have q2 : (2 < s.size) = True := eq_true (by omega)
  have qi2 : (2 < (s.size : Int)) = True := eq_true (by omega)
  have hx2 : ∀ h : 2 < s.size, ((s[2]'h).toNat : Int) = bt s 2 := bt_at s 2
  have q3 : (3 < s.size) = True := eq_true (by omega)
  have qi3 : (3 < (s.size : Int)) = True := eq_true (by omega)
  have hx3 : ∀ h : 3 < s.size, ((s[3]'h).toNat : Int) = bt s 3 := bt_at s 3
  have hlr := bt_range s 3
  go_still_tail 9, (by kernel_rfl)
  change wpList _ _ _ _ _ wc.drew
  have hb7 : wc.drew.heap[w.heap.size]? = some (.cells #[.int .i64 kd, .int .i64 0, .string nil8, .bool false, .string nil8] 39 (0, 0)) := hb
  have hB7 := below_drew hB
  clear hn0 hn1 hn2 hn3 hn4 hy0 hy1 hy2 hy3 hy4 hnt hb hB q2 qi2 hx2 q3 qi3 hx3
  generalize wc.drew = w7 at hb7 hB7 ⊢
  have hnt := nt_of_blk (n := ⟨kd, 0, nil8, false, nil8⟩) hb7
  have hn1 := hnt.c1
  have hy1 := hnt.z1
  go_upto_region 17 with (fail)
  have hur : 0 ≤ bt s 2 * 256 + bt s 3 ∧ bt s 2 * 256 + bt s 3 ≤ 1023 := by omega
  rw [show 256 * bt s 2 + bt s 3 = bt s 2 * 256 + bt s 3 by omega]
  clear hn1 hy1 hnt c6 hgr hlr
  generalize bt s 2 * 256 + bt s 3 = u at hr hur ⊢
  have hb : (w7.setCell ⟨w.heap.size, 1, none⟩ (.int .i64 u)).heap[w.heap.size]? = some (.cells #[.int .i64 kd, .int .i64 u, .string nil8, .bool false, .string nil8] 39 (0, 0)) := blk_put hb7 1 _ rfl
  have hB := hB7.setCell (p := ⟨w.heap.size, 1, none⟩) hZ (.int .i64 u)
  clear hb7 hB7
  generalize w7.setCell ⟨w.heap.size, 1, none⟩ (.int .i64 u) = w8 at hb hB ⊢
  have hnt := nt_of_blk (n := ⟨kd, u, nil8, false, nil8⟩) hb
  have hn0 := hnt.c0
  have hy0 := hnt.z0
  have hn1 := hnt.c1
  have hy1 := hnt.z1
  have hn2 := hnt.c2
  have hy2 := hnt.z2
  have hn3 := hnt.c3
  have hy3 := hnt.z3
  have hn4 := hnt.c4
  have hy4 := hnt.z4
  unfold look3 at hr
  by_cases c10 : u ≤ 1000 ∧ (kd = 6 ↔ u = 0)
  rotate_left
  · rw [if_neg c10] at hr
    by_cases c11 : kd = 6
    · have d1 : (kd == 6) = true := beq_iff_eq.mpr c11
      have d2 : (u == 0) = false := beq_eq_false_iff_ne.mpr (by omega)
      clear c11
      go_wp2
      exact look_end _ w w8 w.heap.size ⟨kd, u, nil8, false, nil8⟩ 0 0 false (by rfl) (by rfl) (by rfl) (by rfl) hb hB hZ r hr.symm
    · have d1 : (kd == 6) = false := beq_eq_false_iff_ne.mpr c11
      by_cases c12 : u = 0
      · have d2 : (u == 0) = true := beq_iff_eq.mpr c12
        clear c11 c12
        go_wp2
        exact look_end _ w w8 w.heap.size ⟨kd, u, nil8, false, nil8⟩ 0 0 false (by rfl) (by rfl) (by rfl) (by rfl) hb hB hZ r hr.symm
      · have d2 : (u == 0) = false := beq_eq_false_iff_ne.mpr c12
        have d3 : decide (1000 < u) = true := decide_eq_true (by omega)
        clear c11 c12
        go_wp2
        exact look_end _ w w8 w.heap.size ⟨kd, u, nil8, false, nil8⟩ 0 0 false (by rfl) (by rfl) (by rfl) (by rfl) hb hB hZ r hr.symm
  rw [if_pos c10] at hr
  go_cut [82] from 71 to 82 (fun v82 wc => v82 = .bool false ∧ wc = w8)
  case first =>
    have d3 : decide (1000 < u) = false := decide_eq_false (by omega)
    by_cases c11 : kd = 6
    · have d1 : (kd == 6) = true := beq_iff_eq.mpr c11
      have d2 : (u == 0) = true := beq_iff_eq.mpr (c10.2.1 c11)
      clear c11
      go_wp2
      go_meet
      case rel => exact ⟨rfl, rfl⟩
    · have d1 : (kd == 6) = false := beq_eq_false_iff_ne.mpr c11
      have d2 : (u == 0) = false := beq_eq_false_iff_ne.mpr (by omega)
      clear c11
      go_wp2
      go_meet
      case rel => exact ⟨rfl, rfl⟩
  obtain ⟨rfl, rfl⟩ := hcut
  by_cases c13 : (s.size : Int) = 4
  · rw [if_pos c13] at hr
    have d9 : ((s.size : Int) == 4) = true := beq_iff_eq.mpr c13
    go_wp2
    exact look_end _ w wc w.heap.size ⟨kd, u, nil8, false, nil8⟩ 0 0 true (by rfl) (by rfl) (by rfl) (by rfl) hb hB hZ r hr.symm
  rw [if_neg c13] at hr
  have d9 : ((s.size : Int) == 4) = false := beq_eq_false_iff_ne.mpr c13
  obtain ⟨P, hP⟩ : ∃ P : Bool, P = decide (kd = 2 ∨ kd = 3) := ⟨_, rfl⟩
  go_upto_region 21 with (fail)
  clear d9
  go_cut [8] from 88 to 95 (fun v8 wn => v8 = .bool P ∧ wn = wc)
  case first =>
    by_cases c6 : kd = 2
    · have d6 : (kd == 2) = true := by simp [c6]
      have hp : Aside0 (P = true) := ⟨by simp [hP, c6]⟩
      clear c6
      go_wp2
      go_meet
      case rel => exact ⟨by rw [hp.out], rfl⟩
    · have d6 : (kd == 2) = false := by simp [c6]
      have hp : Aside0 (P = (kd == 3)) := ⟨by simp [hP, c6]; rfl⟩
      clear c6
      go_wp2
      go_meet
      case rel => exact ⟨by rw [hp.out], rfl⟩
  replace hP := Aside0.mk hP
  obtain ⟨rfl, rfl⟩ := hcut
  have hx4 := ix s 4 (by omega) (by omega)
  have hkr4 := bt_range s 4
  go_upto_region 23 with (fail)
  clear hx4
  generalize bt s 4 = k at hr hkr4 ⊢
  unfold look4 at hr
  by_cases c14 : k ≤ 40 ∧ ((kd = 2 ∨ kd = 3) ↔ 0 < k)
  rotate_left
  · rw [if_neg c14] at hr
    have hPo := hP.out
    cases P
    · have hne : ¬ (kd = 2 ∨ kd = 3) := of_decide_eq_false hPo.symm
      have d1 : (k != 0) = true := bne_iff_ne.mpr (by omega)
      clear hne hPo
      go_wp2
      exact look_end _ w wc w.heap.size ⟨kd, u, nil8, false, nil8⟩ 0 0 false (by rfl) (by rfl) (by rfl) (by rfl) hb hB hZ r hr.symm
    · have hne : kd = 2 ∨ kd = 3 := of_decide_eq_true hPo.symm
      by_cases c15 : k < 1
      · have d1 : decide (k < 1) = true := decide_eq_true c15
        clear hne hPo c15
        go_wp2
        exact look_end _ w wc w.heap.size ⟨kd, u, nil8, false, nil8⟩ 0 0 false (by rfl) (by rfl) (by rfl) (by rfl) hb hB hZ r hr.symm
      · have d1 : decide (k < 1) = false := decide_eq_false c15
        have d2 : decide (40 < k) = true := decide_eq_true (by omega)
        clear hne hPo c15
        go_wp2
        exact look_end _ w wc w.heap.size ⟨kd, u, nil8, false, nil8⟩ 0 0 false (by rfl) (by rfl) (by rfl) (by rfl) hb hB hZ r hr.symm
  rw [if_pos c14] at hr
  go_cut [8, 115] from 99 to 115 (fun v8 v115 wn => v8 = .bool P ∧ v115 = .bool false ∧ wn = wc)
  case first =>
    have hPo := hP.out
    cases P
    · have hne : ¬ (kd = 2 ∨ kd = 3) := of_decide_eq_false hPo.symm
      have d1 : (k != 0) = false := bne_eq_false_iff_eq.mpr (by omega)
      clear hne hPo
      go_wp2
      go_meet
      case rel => exact ⟨rfl, rfl, rfl⟩
    · have hne : kd = 2 ∨ kd = 3 := of_decide_eq_true hPo.symm
      have d1 : decide (k < 1) = false := decide_eq_false (by omega)
      have d2 : decide (40 < k) = false := decide_eq_false (by omega)
      clear hne hPo
      go_wp2
      go_meet
      case rel => exact ⟨rfl, rfl, rfl⟩
  obtain ⟨rfl, rfl, rfl⟩ := hcut
  by_cases c15 : (s.size : Int) < 6 + k
  · rw [if_pos c15] at hr
    have d9 : decide ((s.size : Int) < 5 + k + 1) = true := decide_eq_true (by omega)
    go_wp2
    exact look_end _ w wc w.heap.size ⟨kd, u, nil8, false, nil8⟩ 0 0 true (by rfl) (by rfl) (by rfl) (by rfl) hb hB hZ r hr.symm
  rw [if_neg c15] at hr
  have d9 : decide ((s.size : Int) < 5 + k + 1) = false := decide_eq_false (by omega)
  go_upto_region 27 with (fail)
  clear d9
  obtain ⟨key, hkey⟩ : ∃ key, s.extract (5 : Int).toNat (5 + k).toNat = key := ⟨_, rfl⟩
  have hkey2 : s.extract 5 (5 + k).toNat = key := hkey
  have hsl := sl s 5 (5 + k) (by omega) (by omega) (by omega)
  rw [hkey] at hsl
  go_upto_region 28 with (fail)
  clear hsl
  have hb2 : (wc.setCell ⟨w.heap.size, 2, none⟩ (.string key)).heap[w.heap.size]? = some (.cells #[.int .i64 kd, .int .i64 u, .string key, .bool false, .string nil8] 39 (0, 0)) := blk_put hb 2 _ rfl
  replace hB := hB.setCell (p := ⟨w.heap.size, 2, none⟩) hZ (.string key)
  clear hn0 hn1 hn2 hn3 hn4 hy0 hy1 hy2 hy3 hy4 hnt
  clear hb
  have hb := hb2
  clear hb2
  generalize wc.setCell ⟨w.heap.size, 2, none⟩ (.string key) = w9 at hb hB ⊢
  have hnt := nt_of_blk (n := ⟨kd, u, key, false, nil8⟩) hb
  have hn0 := hnt.c0
  have hy0 := hnt.z0
  have hn1 := hnt.c1
  have hy1 := hnt.z1
  have hn2 := hnt.c2
  have hy2 := hnt.z2
  have hn3 := hnt.c3
  have hy3 := hnt.z3
  have hn4 := hnt.c4
  have hy4 := hnt.z4
  have hk0 : 0 ≤ k := hkr4.1
  have hk1 : k ≤ 40 := c14.1
  go_upto_region 29 with (fail)
  unfold look5 at hr
  rw [hkey2] at hr
  have hhr := bt_range s (5 + k)
  have hx5 := ix s (5 + k) (by omega) (by omega)
  generalize bt s (5 + k) = has at hr hhr hx5 ⊢
  by_cases c16 : has = 0 ∨ has = 1 ∧ (kd = 2 ∨ kd = 3)
  rotate_left
  · rw [if_neg c16] at hr
    by_cases c17 : 1 < has
    · have d1 : decide (1 < has) = true := decide_eq_true c17
      clear c17
      go_wp2
      exact look_end _ w w9 w.heap.size ⟨kd, u, key, false, nil8⟩ 0 0 false (by rfl) (by rfl) (by rfl) (by rfl) hb hB hZ r hr.symm
    · have d1 : decide (1 < has) = false := decide_eq_false c17
      have d2 : (has == 1) = true := beq_iff_eq.mpr (by omega)
      have hPo := hP.out
      have hne : ¬ (kd = 2 ∨ kd = 3) := fun h => c16 (by omega)
      have d3 : P = false := by rw [hPo]; exact decide_eq_false hne
      clear c17 hPo hne
      subst d3
      go_wp2
      exact look_end _ w w9 w.heap.size ⟨kd, u, key, false, nil8⟩ 0 0 false (by rfl) (by rfl) (by rfl) (by rfl) hb hB hZ r hr.symm
  rw [if_pos c16] at hr
  go_cut [8, 144] from 131 to 144 (fun v8 v144 wn => v8 = .bool P ∧ v144 = .bool false ∧ wn = w9)
  case first =>
    have d1 : decide (1 < has) = false := decide_eq_false (by omega)
    by_cases c17 : has = 1
    · have d2 : (has == 1) = true := beq_iff_eq.mpr c17
      have hPo := hP.out
      have d3 : P = true := by rw [hPo]; exact decide_eq_true (by omega)
      clear c17 hPo
      subst d3
      go_wp2
      go_meet
      case rel => exact ⟨rfl, rfl, rfl⟩
    · have d2 : (has == 1) = false := beq_eq_false_iff_ne.mpr c17
      clear c17
      go_wp2
      go_meet
      case rel => exact ⟨rfl, rfl, rfl⟩
  obtain ⟨rfl, rfl, rfl⟩ := hcut
  obtain ⟨H, hH⟩ : ∃ H, (has == 1) = H := ⟨_, rfl⟩
  have hHd : decide (has = 1) = H := by rw [← hH]; rfl
  go_upto_region 32 with (fail)
  have hb2 : (wc.setCell ⟨w.heap.size, 3, none⟩ (.bool H)).heap[w.heap.size]? = some (.cells #[.int .i64 kd, .int .i64 u, .string key, .bool H, .string nil8] 39 (0, 0)) := blk_put hb 3 _ rfl
  replace hB := hB.setCell (p := ⟨w.heap.size, 3, none⟩) hZ (.bool H)
  clear hn0 hn1 hn2 hn3 hn4 hy0 hy1 hy2 hy3 hy4 hnt
  clear hb hx5
  have hb := hb2
  clear hb2
  replace hH := Aside0.mk hH
  generalize wc.setCell ⟨w.heap.size, 3, none⟩ (.bool H) = w10 at hb hB ⊢
  have hnt := nt_of_blk (n := ⟨kd, u, key, H, nil8⟩) hb
  have hn0 := hnt.c0
  have hy0 := hnt.z0
  have hn1 := hnt.c1
  have hy1 := hnt.z1
  have hn2 := hnt.c2
  have hy2 := hnt.z2
  have hn3 := hnt.c3
  have hy3 := hnt.z3
  have hn4 := hnt.c4
  have hy4 := hnt.z4
  obtain ⟨most, hmost⟩ : ∃ m, (if kd = 6 then 40 else if has = 1 then 4000 else (0 : Int)) = m := ⟨_, rfl⟩
  rw [hmost] at hr
  have hmr : 0 ≤ most ∧ most ≤ 4000 := by
    rw [← hmost]
    split
    · omega
    · split <;> omega
  replace hmost := Aside0.mk hmost
  unfold look6 at hr
  rw [hHd, hkey2] at hr
  replace hHd := Aside0.mk hHd
  go_upto_if 152 with (fail)
  obtain ⟨m1, hm1⟩ : ∃ m : Int, (if H = true then 4000 else 0) = m := ⟨_, rfl⟩
  replace hm1 := Aside0.mk hm1
  go_cut [11, 152] from 11 to 11 (fun v11 v152 wn => v11 = .int .i64 m1 ∧ wn = w10)
  case first =>
    have hm := hm1.out
    cases H
    · rw [if_neg (by decide)] at hm
      subst hm
      go_wp2
      go_meet
      case rel => exact ⟨rfl, rfl⟩
    · rw [if_pos rfl] at hm
      subst hm
      go_wp2
      go_meet
      case rel => exact ⟨rfl, rfl⟩
  obtain ⟨rfl, rfl⟩ := hcut
  have hmm : (if kd = 6 then 40 else m1) = most := by
    rw [← hmost.out, ← hm1.out, ← hHd.out]
    simp only [decide_eq_true_eq]
  replace hmm := Aside0.mk hmm
  go_upto_if 155 with (fail)
  go_cut [11, 155] from 11 to 11 (fun v11 v155 wn => v11 = .int .i64 most ∧ wn = wc)
  case first =>
    have hm := hmm.out
    by_cases ck : kd = 6
    · rw [if_pos ck] at hm
      subst hm
      have d1 : (kd == 6) = true := beq_iff_eq.mpr ck
      clear ck
      go_wp2
      go_meet
      case rel => exact ⟨rfl, rfl⟩
    · rw [if_neg ck] at hm
      subst hm
      have d1 : (kd == 6) = false := beq_eq_false_iff_ne.mpr ck
      clear ck
      go_wp2
      go_meet
      case rel => exact ⟨rfl, rfl⟩
  obtain ⟨rfl, rfl⟩ := hcut
  clear hm1 hmm hmost
  by_cases c18 : (s.size : Int) = 6 + k
  · rw [if_pos c18] at hr
    have d9 : ((s.size : Int) == 5 + k + 1) = true := beq_iff_eq.mpr (by omega)
    go_wp2
    exact look_end _ w wc w.heap.size ⟨kd, u, key, H, nil8⟩ 0 0 true (by rfl) (by rfl) (by rfl) (by rfl) hb hB hZ r hr.symm
  rw [if_neg c18] at hr
  have d9 : ((s.size : Int) == 5 + k + 1) = false := beq_eq_false_iff_ne.mpr (by omega)
  go_upto_region 39 with (fail)
  clear d9
  have htgr := bt_range s (6 + k)
  have hx6 : ∀ W, (Instr.index 9 (.string s) (.int .i64 (5 + k + 1))).run Try.prog W = .ok (.int .u8 (bt s (6 + k))) W := fun W => by rw [ix s (5 + k + 1) (by omega) (by omega), show 5 + k + 1 = 6 + k by omega]
  generalize bt s (6 + k) = tg at hr htgr hx6 ⊢
  by_cases c19 : tg * 256 ≤ most
  rotate_left
  · rw [if_neg c19] at hr
    have d1 : decide (most < 256 * tg) = true := decide_eq_true (by omega)
    go_wp2
    exact look_end _ w wc w.heap.size ⟨kd, u, key, H, nil8⟩ 0 0 false (by rfl) (by rfl) (by rfl) (by rfl) hb hB hZ r hr.symm
  rw [if_pos c19] at hr
  have d1 : decide (most < 256 * tg) = false := decide_eq_false (by omega)
  go_upto_region 41 with (fail)
  clear d1
  by_cases c20 : (s.size : Int) = 7 + k
  · rw [if_pos c20] at hr
    have d9 : ((s.size : Int) == 5 + k + 2) = true := beq_iff_eq.mpr (by omega)
    go_wp2
    exact look_end _ w wc w.heap.size ⟨kd, u, key, H, nil8⟩ 0 0 true (by rfl) (by rfl) (by rfl) (by rfl) hb hB hZ r hr.symm
  rw [if_neg c20] at hr
  have d9 : ((s.size : Int) == 5 + k + 2) = false := beq_eq_false_iff_ne.mpr (by omega)
  go_upto_region 43 with (fail)
  clear d9
  have htlr := bt_range s (7 + k)
  have hx7 : ∀ W, (Instr.index 9 (.string s) (.int .i64 (5 + k + 2))).run Try.prog W = .ok (.int .u8 (bt s (7 + k))) W := fun W => by rw [ix s (5 + k + 2) (by omega) (by omega), show 5 + k + 2 = 7 + k by omega]
  generalize bt s (7 + k) = tl at hr htlr hx7 ⊢
  go_region
  have hb2 : wc.drew.heap[w.heap.size]? = some (.cells #[.int .i64 kd, .int .i64 u, .string key, .bool H, .string nil8] 39 (0, 0)) := hb
  have hB2 := below_drew hB
  clear hn0 hn1 hn2 hn3 hn4 hy0 hy1 hy2 hy3 hy4 hnt
  clear hb hB hx6 hx7
  have hb := hb2
  have hB := hB2
  clear hb2 hB2
  generalize wc.drew = w11 at hb hB ⊢
  have hnt := nt_of_blk (n := ⟨kd, u, key, H, nil8⟩) hb
  have hn0 := hnt.c0
  have hy0 := hnt.z0
  have hn1 := hnt.c1
  have hy1 := hnt.z1
  have hn2 := hnt.c2
  have hy2 := hnt.z2
  have hn3 := hnt.c3
  have hy3 := hnt.z3
  have hn4 := hnt.c4
  have hy4 := hnt.z4
  have htr : 0 ≤ tg * 256 + tl ∧ tg * 256 + tl ≤ 65535 := by omega
  rw [show 256 * tg + tl = tg * 256 + tl by omega]
  generalize tg * 256 + tl = t at hr htr ⊢
  clear c19 htgr htlr
  unfold look7 at hr
  rw [hHd.out, hkey2] at hr
  by_cases c21 : t ≤ most ∧ (kd = 6 → 0 < t)
  rotate_left
  · rw [if_neg c21] at hr
    by_cases c22 : t ≤ most
    · have d1 : decide (most < t) = false := decide_eq_false (by omega)
      have d2 : (kd == 6) = true := beq_iff_eq.mpr (by omega)
      have d3 : (t == 0) = true := beq_iff_eq.mpr (by omega)
      clear c22
      go_wp2
      exact look_end _ w w11 w.heap.size ⟨kd, u, key, H, nil8⟩ 0 0 false (by rfl) (by rfl) (by rfl) (by rfl) hb hB hZ r hr.symm
    · have d1 : decide (most < t) = true := decide_eq_true (by omega)
      clear c22
      go_wp2
      exact look_end _ w w11 w.heap.size ⟨kd, u, key, H, nil8⟩ 0 0 false (by rfl) (by rfl) (by rfl) (by rfl) hb hB hZ r hr.symm
  rw [if_pos c21] at hr
  go_upto_region 44 with (fail)
  go_cut [200] from 189 to 200 (fun v200 wn => v200 = .bool false ∧ wn = w11)
  case first =>
    have d1 : decide (most < t) = false := decide_eq_false (by omega)
    by_cases ck : kd = 6
    · have d2 : (kd == 6) = true := beq_iff_eq.mpr ck
      have d3 : (t == 0) = false := beq_eq_false_iff_ne.mpr (by have := c21.2 ck; omega)
      clear ck
      go_wp2
      go_meet
      case rel => exact ⟨rfl, rfl⟩
    · have d2 : (kd == 6) = false := beq_eq_false_iff_ne.mpr ck
      clear ck
      go_wp2
      go_meet
      case rel => exact ⟨rfl, rfl⟩
  obtain ⟨rfl, rfl⟩ := hcut
  by_cases c23 : (s.size : Int) < 8 + k + t
  · rw [if_pos c23] at hr
    have d9 : decide ((s.size : Int) < 5 + k + 3 + t) = true := decide_eq_true (by omega)
    go_wp2
    exact look_end _ w wc w.heap.size ⟨kd, u, key, H, nil8⟩ 0 0 true (by rfl) (by rfl) (by rfl) (by rfl) hb hB hZ r hr.symm
  rw [if_neg c23] at hr
  have d9 : decide ((s.size : Int) < 5 + k + 3 + t) = false := decide_eq_false (by omega)
  go_upto_region 49 with (fail)
  clear d9
  unfold look8 at hr
  obtain ⟨text, htext⟩ : ∃ x, s.extract (8 + k).toNat (8 + k + t).toNat = x := ⟨_, rfl⟩
  rw [hHd.out, hkey2, htext] at hr
  have hsl : ∀ W, (Instr.slice 9 (.string s) (some (.int .i64 (5 + k + 3))) (some (.int .i64 (5 + k + 3 + t))) none).run Try.prog W = .ok (.string text) W := fun W => by
    rw [sl s (5 + k + 3) (5 + k + 3 + t) (by omega) (by omega) (by omega), ← htext, show 5 + k + 3 = 8 + k by omega]
  go_upto_region 50 with (fail)
  clear hsl
  have hb2 : (wc.setCell ⟨w.heap.size, 4, none⟩ (.string text)).heap[w.heap.size]? = some (.cells #[.int .i64 kd, .int .i64 u, .string key, .bool H, .string text] 39 (0, 0)) := blk_put hb 4 _ rfl
  replace hB := hB.setCell (p := ⟨w.heap.size, 4, none⟩) hZ (.string text)
  clear hn0 hn1 hn2 hn3 hn4 hy0 hy1 hy2 hy3 hy4 hnt
  clear hb
  have hb := hb2
  clear hb2
  generalize wc.setCell ⟨w.heap.size, 4, none⟩ (.string text) = w12 at hb hB ⊢
  obtain ⟨body, hbody⟩ : ∃ x, s.extract 0 (8 + k + t).toNat = x := ⟨_, rfl⟩
  rw [hbody] at hr
  have hbs : body.size ≤ 1000000 := by rw [← hbody, ByteArray.size_extract]; omega
  have hsl : ∀ W, (Instr.slice 9 (.string s) none (some (.int .i64 (5 + k + 3 + t))) none).run Try.prog W = .ok (.string body) W := fun W => by
    rw [run_slice_string_to_if _ _ _ _ _ Try.underlying9, if_pos ⟨by omega, by omega⟩, ← hbody, show 5 + k + 3 + t = 8 + k + t by omega]
  go_upto_region 51 with (go_at_call 31; refine (rSum_calls last body hbs _).mono ?_; rintro e w13 ⟨rfl, hb13⟩)
  clear hsl
  generalize sumF last body = sum at hr ⊢
  replace hb := (hb13.block _ (blk_lt hb)).trans hb
  replace hB := below_then hB (hB.size) hb13
  go_upto_region 52 with (go_at_call 63; refine (ringworkref25_eight.calls sum _ _ rfl).mono ?_; rintro e w14 ⟨rfl, hb14⟩)
  have he8 := eightS_size sum
  generalize eightS sum = e8 at hr he8 ⊢
  replace hb := (hb14.block _ (blk_lt hb)).trans hb
  replace hB := below_then hB (hB.size) hb14
  clear hb13 hb14 hbody htext hHd hH hhr c16 hmr c21
  have hq : 8 + k + t = 5 + k + 3 + t := by omega
  rw [hq] at hr c23
  go_wp2
  go_loopg [6, 14] 9 (fun kq v6 v14 wk => ∃ j : Nat, v14 = .int .i64 (j : Int) ∧ v6 = .int .u64 sum ∧ j ≤ 8 ∧ 5 + k + 3 + t + (j : Int) ≤ (s.size : Int) ∧ kq = 8 - j + 1 ∧ Aside0 (lookT s e8 ⟨kd, u, key, H, text⟩ sum (5 + k + 3 + t) (8 - j) = r) ∧ Aside0 (wk.heap[w.heap.size]? = some (.cells #[.int .i64 kd, .int .i64 u, .string key, .bool H, .string text] 39 (0, 0))) ∧ Aside0 (Below w.heap.size w wk))
  case atStart => exact ⟨0, rfl, rfl, by omega, by omega, rfl, ⟨hr⟩, ⟨hb⟩, ⟨hB⟩⟩
  case round =>
    clear hr hb hB
    obtain ⟨j, rfl, rfl, hj, hjs, rfl, ⟨hr⟩, ⟨hb⟩, ⟨hB⟩⟩ := hrel
    have hnt := nt_of_blk (n := ⟨kd, u, key, H, text⟩) hb
    have hn0 := hnt.c0
    have hy0 := hnt.z0
    have hn1 := hnt.c1
    have hy1 := hnt.z1
    have hn2 := hnt.c2
    have hy2 := hnt.z2
    have hn3 := hnt.c3
    have hy3 := hnt.z3
    have hn4 := hnt.c4
    have hy4 := hnt.z4
    by_cases hlt : j < 8
    · have hd : decide ((j : Int) < 8) = true := decide_eq_true (by omega)
      rw [show 8 - j = (8 - (j + 1)) + 1 by omega, lookT, show (8 - ((8 - (j + 1) + 1 : Nat) : Int)) = (j : Int) by omega] at hr
      by_cases c30 : 5 + k + 3 + t + (j : Int) = (s.size : Int)
      · rw [if_pos c30] at hr
        have d1 : (5 + k + 3 + t + (j : Int) == (s.size : Int)) = true := beq_iff_eq.mpr c30
        clear c30
        go_wp2
        exact look_end _ w wr w.heap.size ⟨kd, u, key, H, text⟩ 0 0 true (by rfl) (by rfl) (by rfl) (by rfl) hb hB hZ r hr.symm
      · rw [if_neg c30] at hr
        have d1 : (5 + k + 3 + t + (j : Int) == (s.size : Int)) = false := beq_eq_false_iff_ne.mpr c30
        have c32 : 5 + k + 3 + t + (j : Int) < (s.size : Int) := by omega
        have hx1 := ix s (5 + k + 3 + t + j) (by omega) c32
        have hx2 := ix e8 j (by omega) (by omega)
        go_upto_region 57 with (fail)
        have hb2 : wr.drew.heap[w.heap.size]? = some (.cells #[.int .i64 kd, .int .i64 u, .string key, .bool H, .string text] 39 (0, 0)) := hb
        have hB2 := below_drew hB
        by_cases c31 : bt s (5 + k + 3 + t + j) = bt e8 j
        · rw [if_pos c31] at hr
          have d31 : (bt s (5 + k + 3 + t + (j : Int)) != bt e8 (j : Int)) = false := bne_eq_false_iff_eq.mpr c31
          clear c31
          go_region
          clear hn0 hn1 hn2 hn3 hn4 hy0 hy1 hy2 hy3 hy4 hnt hb hB hx1 hx2
          generalize wr.drew = w15 at hb2 hB2 ⊢
          go_wp2
          go_roundg (8 - (j + 1) + 1)
          case measure => omega
          case rel => exact ⟨j + 1, by push_cast; rfl, rfl, by omega, by push_cast; omega, rfl, ⟨hr⟩, ⟨hb2⟩, ⟨hB2⟩⟩
        · rw [if_neg c31] at hr
          have d31 : (bt s (5 + k + 3 + t + (j : Int)) != bt e8 (j : Int)) = true := bne_iff_ne.mpr c31
          clear c31
          go_region
          clear hn0 hn1 hn2 hn3 hn4 hy0 hy1 hy2 hy3 hy4 hnt hb hB hx1 hx2
          have hb := hb2
          have hB := hB2
          clear hb2 hB2
          generalize wr.drew = w15 at hb hB ⊢
          have hnt := nt_of_blk (n := ⟨kd, u, key, H, text⟩) hb
          have hn0 := hnt.c0
          have hy0 := hnt.z0
          have hn1 := hnt.c1
          have hy1 := hnt.z1
          have hn2 := hnt.c2
          have hy2 := hnt.z2
          have hn3 := hnt.c3
          have hy3 := hnt.z3
          have hn4 := hnt.c4
          have hy4 := hnt.z4
          go_wp2
          exact look_end _ w w15 w.heap.size ⟨kd, u, key, H, text⟩ 0 0 false (by rfl) (by rfl) (by rfl) (by rfl) hb hB hZ r hr.symm
    · have hd : decide ((j : Int) < 8) = false := decide_eq_false (by omega)
      rw [show 8 - j = 0 by omega, lookT] at hr
      go_wp2
      exact look_end _ w wr w.heap.size ⟨kd, u, key, H, text⟩ (5 + k + 3 + t + 8) sum false (by rfl) (by rfl) (by rfl) (by rfl) hb hB hZ r hr.symm
/-- What look answers, in the printed form. -/
def ringworkref25_look.f (a0 : ByteArray) (a1 : Int) : Option (Int × Int × ByteArray × Bool × ByteArray × Int × Int × Bool) :=
  if a0.size ≤ 1000000 then some ((lookF a0 a1).1.f0, (lookF a0 a1).1.f1, (lookF a0 a1).1.f2, (lookF a0 a1).1.f3, (lookF a0 a1).1.f4, (lookF a0 a1).2.1, (lookF a0 a1).2.2.1, (lookF a0 a1).2.2.2) else none
theorem ringworkref25_look.calls (a0 : ByteArray) (a1 : Int) (r1 : Int) (r2 : Int) (r3 : ByteArray) (r4 : Bool) (r5 : ByteArray) (r6 : Int) (r7 : Int) (r8 : Bool) (w : World) (h : ringworkref25_look.f a0 a1 = some (r1, r2, r3, r4, r5, r6, r7, r8)) :
    Calls Try.prog 55 #[.string a0, .int .u64 a1] w fun e w' => e = .returned (.tuple #[.agg #[.int .i64 r1, .int .i64 r2, .string r3, .bool r4, .string r5], .int .i64 r6, .int .u64 r7, .bool r8]) ∧ Below w.heap.size w w' := by
  unfold ringworkref25_look.f at h
  split at h
  · rename_i hs
    simp only [Option.some.injEq, Prod.mk.injEq] at h
    obtain ⟨rfl, rfl, rfl, rfl, rfl, rfl, rfl, rfl⟩ := h
    exact look_calls a0 a1 hs w
  · cases h
end Go.Proofs.Yteblpjnkinghoaa.J
namespace Go.Proofs.Yteblpjnkinghoaa.J
open Go.RowKit Go.Proofs.YteblpjnkinghoaaW.PrintWords Go.Proofs.YteblpjnkinghoaaW.PrintLast Go.Proofs.YteblpjnkinghoaaW.PrintMore
attribute [local go_sem] max2_int min2_int max_two min_two max_three min_three max_four min_four   -- for this text's walks alone
set_option linter.unusedVariables false
set_option linter.unusedSimpArgs false
/-! ### ringworkref25_Decode: function 24 -/
def ringworkref25_Decode.l0 : Nat → ByteArray → List (S39) → Int → Int → Option ((List (S39)) × Int × Bool × Int × Int)
  | 0, _, _, _, _ => none
  | k + 1, x0, x2, x3, x5 => if x3 < (x0.size : Int) then (if 0 ≤ x3 then (if x3 ≤ (x0.size : Int) then ((ringworkref25_look.f (x0.extract (x3 : Int).toNat x0.size) x5).bind fun bt169 => (if bt169.2.2.2.2.2.2.2 = true then (some (x2, x3, true, x5, 0)) else (if bt169.2.2.2.2.2.1 = 0 then (some (x2, x3, false, x5, 12)) else (if x2.length < 2513169434916 then (ringworkref25_Decode.l0 k x0 (x2 ++ [(⟨bt169.1, bt169.2.1, bt169.2.2.1, bt169.2.2.2.1, bt169.2.2.2.2.1⟩ : S39)]) (wrap64 (x3 + bt169.2.2.2.2.2.1)) bt169.2.2.2.2.2.2.1) else (none))))) else (none)) else (none)) else (some (x2, x3, false, x5, 0))
def ringworkref25_Decode.f (k : Nat) (a0 : ByteArray) : Option ((List (S39)) × Int × Bool × Int × Int) := if (a0.size : Int) > 65536 then (some (([] : List (S39)), 0, false, 0, 3)) else (ringworkref25_Decode.l0 k a0 ([] : List (S39)) 0 0)
set_option maxHeartbeats 8000000 in
set_option maxRecDepth 100000 in
theorem ringworkref25_Decode.calls (k : Nat) (a0 : ByteArray) (r1 : List (S39)) (r2 : Int) (r3 : Bool) (r4 : Int) (r5 : Int) (w : World) (h : ringworkref25_Decode.f k a0 = some (r1, r2, r3, r4, r5)) :
    Calls Try.prog 24 #[.string a0] w fun e w' => ∃ v0_ : Value, e = .returned (.tuple #[v0_, .int .i64 r2, .bool r3, .int .u64 r4, .int .i64 r5]) ∧ Kd.R k39 39 w' w.heap.size (fun _ => True) v0_ r1 ∧ Below w.heap.size w w' := by
  have hu39 := Try.underlying39
  have HB := Aside0.mk (Below.refl w.heap.size w)
  have H : (if (a0.size : Int) > 65536 then (some (([] : List (S39)), 0, false, 0, 3)) else (ringworkref25_Decode.l0 k a0 ([] : List (S39)) 0 0)) = some (r1, r2, r3, r4, r5) := h
  clear h
  by_cases c2 : (a0.size : Int) > 65536
  · rw [if_pos c2] at H
    have c2b0 : decide (65536 < (a0.size : Int)) = true := decide_eq_true c2
    have c2b1 : decide (65536 < a0.size) = true := decide_eq_true (by omega)
    clear c2
    simp only [Option.some.injEq, Prod.mk.injEq] at H
    obtain ⟨rfl, rfl, rfl, rfl, rfl⟩ := H
    go_enter Try.func24, Try.ntmps24
    go_wp2
    refine bodyPost_ret (results_list (rs := [.tmp 2, .tmp 3, .tmp 4, .tmp 5, .tmp 6]) rfl (by simp) (.tmp (.tmp (.tmp (.tmp (.tmp .nil)))))) rfl ?_
    exact ⟨_, by first | rfl | (simp [errW_none, errW_some] <;> rfl) | (simp [*, errW_none, errW_some] <;> rfl), by first | exact Kd.R_nil _ _ _ _ _ | exact Kd.N_nil _ _ _ _ _ | exact Kd.V_nil _ _ _ _ _ | exact Kd.Q_nil _ _ _ _ _ | exact Kd.S_nil _ _ _ _ _, by repeat (first | (with_reducible first | exact HB.out | apply below_alloc | apply pw_below_drewN | apply below_drew1) | exact HB.out)⟩
  · rw [if_neg c2] at H
    have c2b0 : decide (65536 < (a0.size : Int)) = false := decide_eq_false c2
    have c2b1 : decide (65536 < a0.size) = false := decide_eq_false (by omega)
    clear c2
    have H' := Aside0.mk H
    clear H
    go_enter Try.func24, Try.ntmps24
    go_wp2
    go_loopg [2, 3, 5] k (fun kq v2 v3 v5 w' => ∃ (x2_1 : List (S39)) (x3_1 : Int) (x5_1 : Int), v3 = .int .i64 x3_1 ∧ v5 = .int .u64 x5_1 ∧ Aside0 (ringworkref25_Decode.l0 kq a0 x2_1 x3_1 x5_1 = some (r1, r2, r3, r4, r5)) ∧ Aside0 (kq ≤ k) ∧ Aside0 (Kd.R k39 39 w' w.heap.size (fun _ => True) v2 x2_1) ∧ Aside0 (Below w.heap.size w w'))
    case atStart => exact ⟨(([] : List (S39))), (0), (0), (by first | rfl | (simp; done) | (simp [*]; done)), (by first | rfl | (simp; done) | (simp [*]; done)), H', ⟨Nat.le_refl _⟩, ⟨by first | exact Kd.R_nil _ _ _ _ _ | exact Kd.N_nil _ _ _ _ _ | exact Kd.V_nil _ _ _ _ _ | exact Kd.Q_nil _ _ _ _ _ | exact Kd.S_nil _ _ _ _ _⟩, ⟨by repeat (first | (with_reducible first | exact HB.out | apply below_alloc | apply pw_below_drewN | apply below_drew1) | exact HB.out)⟩⟩
    case round =>
      clear H'
      try clear c2
      try clear c2b0
      try clear c2b1
      try clear p2
      obtain ⟨x2_1, x3_1, x5_1, rfl, rfl, HA, HK1, HO_2, HB⟩ := hrel
      cases gk with
      | zero => exact absurd HA.out (by simp [ringworkref25_Decode.l0])
      | succ k1 =>
        have H := HA.out
        clear HA
        simp only [ringworkref25_Decode.l0] at H
        by_cases c3 : x3_1 < (a0.size : Int)
        · rw [if_pos c3] at H
          have c3b0 : decide (x3_1 < (a0.size : Int)) = true := decide_eq_true c3
          clear c3
          by_cases c4 : 0 ≤ x3_1
          · rw [if_pos c4] at H
            have c4b0 := eq_true c4
            have c4b1 : decide (0 ≤ x3_1) = true := decide_eq_true c4
            clear c4
            by_cases c5 : x3_1 ≤ (a0.size : Int)
            · rw [if_pos c5] at H
              have c5b0 := eq_true c5
              have c5b1 : decide (x3_1 ≤ (a0.size : Int)) = true := decide_eq_true c5
              clear c5
              replace H := Option.bind_eq_some_iff.mp H
              obtain ⟨⟨t169, t170, t171, t172, t173, t174, t175, t176⟩, A60, H⟩ := H
              replace H : (if t176 = true then (some (x2_1, x3_1, true, x5_1, 0)) else (if t174 = 0 then (some (x2_1, x3_1, false, x5_1, 12)) else (if x2_1.length < 2513169434916 then (ringworkref25_Decode.l0 k1 a0 (x2_1 ++ [(⟨t169, t170, t171, t172, t173⟩ : S39)]) (wrap64 (x3_1 + t174)) t175) else (none)))) = some (r1, r2, r3, r4, r5) := H
              have A6 := Aside0.mk A60
              clear A60
              by_cases c7 : t176 = true
              · subst c7
                have H1 : (some (x2_1, x3_1, true, x5_1, 0)) = some (r1, r2, r3, r4, r5) := by rw [if_pos rfl] at H; exact H
                clear H
                have H := H1
                clear H1
                simp only [Option.some.injEq, Prod.mk.injEq] at H
                obtain ⟨rfl, rfl, rfl, rfl, rfl⟩ := H
                go_wp2_with (first | ((with_reducible refine gate_callee (f := 55) rfl ?_); refine goesL_ (some 23) rfl rfl Try.func55 (by kernel_rfl) rfl #[.string (a0.extract (x3_1 : Int).toNat a0.size), .int .u64 x5_1] rfl (by (try simp only [List.map_toArray, List.map_cons, List.map_nil]); first | done | rfl | (simp only [List.length_drop, List.length_take]; rfl)) ?_; (with_reducible refine (ringworkref25_look.calls (a0.extract (x3_1 : Int).toNat a0.size) x5_1 t169 t170 t171 t172 t173 t174 t175 true _ A6.out).mono ?_); rintro e w8 ⟨rfl, hb⟩; refine ⟨_, rfl, ?_⟩; have n0_ := Aside0.mk (Kd.R_below (by (with_reducible repeat (first | apply Kd.R_alloc | apply Kd.R_drewN | apply Kd.R_drew)); exact HO_2.out) hb); have n1_ := Aside0.mk (below_step (by repeat (first | (with_reducible first | exact HB.out | apply below_alloc | apply pw_below_drewN | apply below_drew1) | exact HB.out)) hb); clear HO_2; clear HB; have HO_2 := n0_; have HB := n1_; clear n0_ n1_; (try clear hb); (try clear hb2); (try clear hk); (try clear hi)) | ((with_reducible refine gate_dst (N := 7) rfl ?_); refine box_event ?hg (N := 7) ?hd (cs := #[.int .i64 0, .int .i64 0, .string (⟨#[]⟩ : ByteArray), .bool false, .string (⟨#[]⟩ : ByteArray)]) (t := 39) ?hr ?_; (case hd => rfl); (case hg => rfl); (case hr => first | (go_simp; done) | (go_simp; rfl)); intro gb177 hg w9 hbox hb; have n0_ := Aside0.mk (Kd.R_below (Kd.R_elderB (by (with_reducible repeat (first | apply Kd.R_alloc | apply Kd.R_drewN | apply Kd.R_drew)); exact HO_2.out) gb177 (Nat.le_of_eq hg.symm)) hb); have n1_ := Aside0.mk (below_step (by repeat (first | (with_reducible first | exact HB.out | apply below_alloc | apply pw_below_drewN | apply below_drew1) | exact HB.out)) hb); have n2_ := Aside0.mk (hbox); have n3_ := Aside0.mk ((by rw [hg]; exact (below_size (by repeat (first | (with_reducible first | exact HB.out | apply below_alloc | apply pw_below_drewN | apply below_drew1) | exact HB.out))) : w.heap.size ≤ gb177)); have n4_ := Aside0.mk ((by rw [hg]; exact (below_size (by repeat (first | (with_reducible first | exact HB.out | apply below_alloc | apply pw_below_drewN | apply below_drew1) | exact HB.out))) : w.heap.size ≤ gb177)); clear HO_2; clear HB; have HO_2 := n0_; have HB := n1_; have BK177 := n2_; have GW177 := n3_; have GE177 := n4_; clear n0_ n1_ n2_ n3_ n4_; clear hb hbox hg; have hcz10_0 : w9.cell? ⟨gb177, 0, none⟩ = some (.int .i64 0) := (blk_cell BK177.out 0).trans rfl; have hcz10_1 : w9.cell? ⟨gb177, 1, none⟩ = some (.int .i64 0) := (blk_cell BK177.out 1).trans rfl; have hcz10_2 : w9.cell? ⟨gb177, 2, none⟩ = some (.string (⟨#[]⟩ : ByteArray)) := (blk_cell BK177.out 2).trans rfl; have hcz10_3 : w9.cell? ⟨gb177, 3, none⟩ = some (.bool false) := (blk_cell BK177.out 3).trans rfl; have hcz10_4 : w9.cell? ⟨gb177, 4, none⟩ = some (.string (⟨#[]⟩ : ByteArray)) := (blk_cell BK177.out 4).trans rfl; have hfz10_0 := blk_frozen BK177.out 0; have hfz10_1 := blk_frozen BK177.out 1; have hfz10_2 := blk_frozen BK177.out 2; have hfz10_3 := blk_frozen BK177.out 3; have hfz10_4 := blk_frozen BK177.out 4))
                refine bodyPost_ret (results_list (rs := [.tmp 2, .tmp 3, .tmp 4, .tmp 5, .tmp 6]) rfl (by simp) (.tmp (.tmp (.tmp (.tmp (.tmp .nil)))))) rfl ?_
                exact ⟨_, by first | rfl | (simp [errW_none, errW_some] <;> rfl) | (simp [*, errW_none, errW_some] <;> rfl), by (with_reducible repeat (first | apply Kd.R_alloc | apply Kd.R_drewN | apply Kd.R_drew)); exact Kd.R_mono (Kd.R_far (p := ⟨gb177, 4, none⟩) (Kd.R_far (p := ⟨gb177, 3, none⟩) (Kd.R_far (p := ⟨gb177, 2, none⟩) (Kd.R_far (p := ⟨gb177, 1, none⟩) (Kd.R_far (p := ⟨gb177, 0, none⟩) (Kd.R_mono HO_2.out (fun k_ hk => (⟨hk, hk.2⟩ : _ ∧ k_ ≠ gb177))) (fun _ hk => hk.2) (.int .i64 t169)) (fun _ hk => hk.2) (.int .i64 t170)) (fun _ hk => hk.2) (.string t171)) (fun _ hk => hk.2) (.bool t172)) (fun _ hk => hk.2) (.string t173)) (fun _ hk => trivial), by repeat (first | (with_reducible first | exact HB.out | apply below_alloc | apply pw_below_drewN | apply below_drew1 | refine below_set ?_ GE177.out) | exact HB.out)⟩
              · replace c7 := Bool.eq_false_iff.mpr c7
                subst c7
                have H1 : (if t174 = 0 then (some (x2_1, x3_1, false, x5_1, 12)) else (if x2_1.length < 2513169434916 then (ringworkref25_Decode.l0 k1 a0 (x2_1 ++ [(⟨t169, t170, t171, t172, t173⟩ : S39)]) (wrap64 (x3_1 + t174)) t175) else (none))) = some (r1, r2, r3, r4, r5) := by rw [if_neg (show ¬ (false = true) by decide)] at H; exact H
                clear H
                have H := H1
                clear H1
                by_cases c11 : t174 = 0
                · rw [if_pos c11] at H
                  have c11b0 : (t174 == 0) = true := beq_iff_eq.mpr c11
                  have c11b1 : (t174 != 0) = false := bne_eq_false_iff_eq.mpr c11
                  clear c11
                  simp only [Option.some.injEq, Prod.mk.injEq] at H
                  obtain ⟨rfl, rfl, rfl, rfl, rfl⟩ := H
                  go_wp2_with (first | ((with_reducible refine gate_callee (f := 55) rfl ?_); refine goesL_ (some 23) rfl rfl Try.func55 (by kernel_rfl) rfl #[.string (a0.extract (x3_1 : Int).toNat a0.size), .int .u64 x5_1] rfl (by (try simp only [List.map_toArray, List.map_cons, List.map_nil]); first | done | rfl | (simp only [List.length_drop, List.length_take]; rfl)) ?_; (with_reducible refine (ringworkref25_look.calls (a0.extract (x3_1 : Int).toNat a0.size) x5_1 t169 t170 t171 t172 t173 t174 t175 false _ A6.out).mono ?_); rintro e w12 ⟨rfl, hb⟩; refine ⟨_, rfl, ?_⟩; have n0_ := Aside0.mk (Kd.R_below (by (with_reducible repeat (first | apply Kd.R_alloc | apply Kd.R_drewN | apply Kd.R_drew)); exact HO_2.out) hb); have n1_ := Aside0.mk (below_step (by repeat (first | (with_reducible first | exact HB.out | apply below_alloc | apply pw_below_drewN | apply below_drew1) | exact HB.out)) hb); clear HO_2; clear HB; have HO_2 := n0_; have HB := n1_; clear n0_ n1_; (try clear hb); (try clear hb2); (try clear hk); (try clear hi)) | ((with_reducible refine gate_dst (N := 7) rfl ?_); refine box_event ?hg (N := 7) ?hd (cs := #[.int .i64 0, .int .i64 0, .string (⟨#[]⟩ : ByteArray), .bool false, .string (⟨#[]⟩ : ByteArray)]) (t := 39) ?hr ?_; (case hd => rfl); (case hg => rfl); (case hr => first | (go_simp; done) | (go_simp; rfl)); intro gb177 hg w13 hbox hb; have n0_ := Aside0.mk (Kd.R_below (Kd.R_elderB (by (with_reducible repeat (first | apply Kd.R_alloc | apply Kd.R_drewN | apply Kd.R_drew)); exact HO_2.out) gb177 (Nat.le_of_eq hg.symm)) hb); have n1_ := Aside0.mk (below_step (by repeat (first | (with_reducible first | exact HB.out | apply below_alloc | apply pw_below_drewN | apply below_drew1) | exact HB.out)) hb); have n2_ := Aside0.mk (hbox); have n3_ := Aside0.mk ((by rw [hg]; exact (below_size (by repeat (first | (with_reducible first | exact HB.out | apply below_alloc | apply pw_below_drewN | apply below_drew1) | exact HB.out))) : w.heap.size ≤ gb177)); have n4_ := Aside0.mk ((by rw [hg]; exact (below_size (by repeat (first | (with_reducible first | exact HB.out | apply below_alloc | apply pw_below_drewN | apply below_drew1) | exact HB.out))) : w.heap.size ≤ gb177)); clear HO_2; clear HB; have HO_2 := n0_; have HB := n1_; have BK177 := n2_; have GW177 := n3_; have GE177 := n4_; clear n0_ n1_ n2_ n3_ n4_; clear hb hbox hg; have hcz14_0 : w13.cell? ⟨gb177, 0, none⟩ = some (.int .i64 0) := (blk_cell BK177.out 0).trans rfl; have hcz14_1 : w13.cell? ⟨gb177, 1, none⟩ = some (.int .i64 0) := (blk_cell BK177.out 1).trans rfl; have hcz14_2 : w13.cell? ⟨gb177, 2, none⟩ = some (.string (⟨#[]⟩ : ByteArray)) := (blk_cell BK177.out 2).trans rfl; have hcz14_3 : w13.cell? ⟨gb177, 3, none⟩ = some (.bool false) := (blk_cell BK177.out 3).trans rfl; have hcz14_4 : w13.cell? ⟨gb177, 4, none⟩ = some (.string (⟨#[]⟩ : ByteArray)) := (blk_cell BK177.out 4).trans rfl; have hfz14_0 := blk_frozen BK177.out 0; have hfz14_1 := blk_frozen BK177.out 1; have hfz14_2 := blk_frozen BK177.out 2; have hfz14_3 := blk_frozen BK177.out 3; have hfz14_4 := blk_frozen BK177.out 4))
                  refine bodyPost_ret (results_list (rs := [.tmp 2, .tmp 3, .tmp 4, .tmp 5, .tmp 6]) rfl (by simp) (.tmp (.tmp (.tmp (.tmp (.tmp .nil)))))) rfl ?_
                  exact ⟨_, by first | rfl | (simp [errW_none, errW_some] <;> rfl) | (simp [*, errW_none, errW_some] <;> rfl), by (with_reducible repeat (first | apply Kd.R_alloc | apply Kd.R_drewN | apply Kd.R_drew)); exact Kd.R_mono (Kd.R_far (p := ⟨gb177, 4, none⟩) (Kd.R_far (p := ⟨gb177, 3, none⟩) (Kd.R_far (p := ⟨gb177, 2, none⟩) (Kd.R_far (p := ⟨gb177, 1, none⟩) (Kd.R_far (p := ⟨gb177, 0, none⟩) (Kd.R_mono HO_2.out (fun k_ hk => (⟨hk, hk.2⟩ : _ ∧ k_ ≠ gb177))) (fun _ hk => hk.2) (.int .i64 t169)) (fun _ hk => hk.2) (.int .i64 t170)) (fun _ hk => hk.2) (.string t171)) (fun _ hk => hk.2) (.bool t172)) (fun _ hk => hk.2) (.string t173)) (fun _ hk => trivial), by repeat (first | (with_reducible first | exact HB.out | apply below_alloc | apply pw_below_drewN | apply below_drew1 | refine below_set ?_ GE177.out) | exact HB.out)⟩
                · rw [if_neg c11] at H
                  have c11b0 : (t174 == 0) = false := beq_eq_false_iff_ne.mpr c11
                  have c11b1 : (t174 != 0) = true := bne_iff_ne.mpr c11
                  by_cases c15 : x2_1.length < 2513169434916
                  · rw [if_pos c15] at H
                    have LMc15 := Aside0.mk c15
                    clear c15
                    obtain ⟨y178, hy178⟩ : ∃ y_ : List (S39), y_ = (x2_1 ++ [(⟨t169, t170, t171, t172, t173⟩ : S39)]) := ⟨_, rfl⟩
                    replace H : (ringworkref25_Decode.l0 k1 a0 y178 (wrap64 (x3_1 + t174)) t175) = some (r1, r2, r3, r4, r5) := by first | (rw [hy178]; with_reducible exact H) | (have H2_ := (Option.bind_some _ _).symm.trans H; rw [hy178]; with_reducible exact H2_) | (have H2_ := (Option.bind_some _ _).symm.trans H; with_reducible exact H2_) | with_reducible exact H | (rw [hy178]; exact H) | exact H
                    have Ny178 := Aside0.mk hy178
                    clear hy178
                    have H' := Aside0.mk H
                    clear H
                    go_wp2_with (first | ((with_reducible refine gate_callee (f := 55) rfl ?_); refine goesL_ (some 23) rfl rfl Try.func55 (by kernel_rfl) rfl #[.string (a0.extract (x3_1 : Int).toNat a0.size), .int .u64 x5_1] rfl (by (try simp only [List.map_toArray, List.map_cons, List.map_nil]); first | done | rfl | (simp only [List.length_drop, List.length_take]; rfl)) ?_; (with_reducible refine (ringworkref25_look.calls (a0.extract (x3_1 : Int).toNat a0.size) x5_1 t169 t170 t171 t172 t173 t174 t175 false _ A6.out).mono ?_); rintro e w16 ⟨rfl, hb⟩; refine ⟨_, rfl, ?_⟩; have n0_ := Aside0.mk (Kd.R_below (by (with_reducible repeat (first | apply Kd.R_alloc | apply Kd.R_drewN | apply Kd.R_drew)); exact HO_2.out) hb); have n1_ := Aside0.mk (below_step (by repeat (first | (with_reducible first | exact HB.out | apply below_alloc | apply pw_below_drewN | apply below_drew1) | exact HB.out)) hb); clear HO_2; clear HB; have HO_2 := n0_; have HB := n1_; clear n0_ n1_; (try clear hb); (try clear hb2); (try clear hk); (try clear hi)) | ((with_reducible refine gate_dst (N := 7) rfl ?_); refine box_event ?hg (N := 7) ?hd (cs := #[.int .i64 0, .int .i64 0, .string (⟨#[]⟩ : ByteArray), .bool false, .string (⟨#[]⟩ : ByteArray)]) (t := 39) ?hr ?_; (case hd => rfl); (case hg => rfl); (case hr => first | (go_simp; done) | (go_simp; rfl)); intro gb177 hg w17 hbox hb; have n0_ := Aside0.mk (Kd.R_below (Kd.R_elderB (by (with_reducible repeat (first | apply Kd.R_alloc | apply Kd.R_drewN | apply Kd.R_drew)); exact HO_2.out) gb177 (Nat.le_of_eq hg.symm)) hb); have n1_ := Aside0.mk (below_step (by repeat (first | (with_reducible first | exact HB.out | apply below_alloc | apply pw_below_drewN | apply below_drew1) | exact HB.out)) hb); have n2_ := Aside0.mk (hbox); have n3_ := Aside0.mk ((by rw [hg]; exact (below_size (by repeat (first | (with_reducible first | exact HB.out | apply below_alloc | apply pw_below_drewN | apply below_drew1) | exact HB.out))) : w.heap.size ≤ gb177)); have n4_ := Aside0.mk ((by rw [hg]; exact (below_size (by repeat (first | (with_reducible first | exact HB.out | apply below_alloc | apply pw_below_drewN | apply below_drew1) | exact HB.out))) : w.heap.size ≤ gb177)); clear HO_2; clear HB; have HO_2 := n0_; have HB := n1_; have BK177 := n2_; have GW177 := n3_; have GE177 := n4_; clear n0_ n1_ n2_ n3_ n4_; clear hb hbox hg; have hcz18_0 : w17.cell? ⟨gb177, 0, none⟩ = some (.int .i64 0) := (blk_cell BK177.out 0).trans rfl; have hcz18_1 : w17.cell? ⟨gb177, 1, none⟩ = some (.int .i64 0) := (blk_cell BK177.out 1).trans rfl; have hcz18_2 : w17.cell? ⟨gb177, 2, none⟩ = some (.string (⟨#[]⟩ : ByteArray)) := (blk_cell BK177.out 2).trans rfl; have hcz18_3 : w17.cell? ⟨gb177, 3, none⟩ = some (.bool false) := (blk_cell BK177.out 3).trans rfl; have hcz18_4 : w17.cell? ⟨gb177, 4, none⟩ = some (.string (⟨#[]⟩ : ByteArray)) := (blk_cell BK177.out 4).trans rfl; have hfz18_0 := blk_frozen BK177.out 0; have hfz18_1 := blk_frozen BK177.out 1; have hfz18_2 := blk_frozen BK177.out 2; have hfz18_3 := blk_frozen BK177.out 3; have hfz18_4 := blk_frozen BK177.out 4) | ((with_reducible refine gate_builtin (b := .append) (xs := #[.tmp 37, .tmp 39]) rfl ?_); at_builtin; refine Kd.R_append k39 (w0 := w) w.heap.size rfl (.tmp 37) (.tmp 39) 23 39 (.agg #[(.int .i64 0), (.int .i64 0), (.string ⟨#[]⟩), (.bool false), (.string ⟨#[]⟩)]) 56 rfl Try.underlying23 info39 rfl (by decide) (by omega) u2 x2_1 (⟨t169, t170, t171, t172, t173⟩ : S39) [.int .i64 t169, .int .i64 t170, .string t171, .bool t172, .string t173] (fun k_ => k_ ≠ gb177) (fun _ => False) rfl (by first | (go_simp; done) | (go_simp; rfl)) ?aP (fun _ hk => hk.elim) ?aF ?aO ?aB ?aS ?aL ?_; (case aP => exact k39_mkM _ _ _ (⟨t169, t170, t171, t172, t173⟩ : S39)); (case aB => exact (by repeat (first | (with_reducible first | exact HB.out | apply below_alloc | apply pw_below_drewN | apply below_drew1 | refine below_set ?_ GE177.out) | exact HB.out))); (case aF => exact (fun k_ hk => Kd.freshB (g := gb177) (o := .cells #[.int .i64 t169, .int .i64 t170, .string t171, .bool t172, .string t173] 39 (0, 0)) (by (with_reducible repeat (first | refine blk_drewN ?_ _ | refine blk_drew ?_ | refine blk_alloc ?_ _)); refine blk_put (cs := #[.int .i64 t169, .int .i64 t170, .string t171, .bool t172, .string (⟨#[]⟩ : ByteArray)]) ?_ 4 _ rfl; (with_reducible repeat (first | refine blk_drewN ?_ _ | refine blk_drew ?_ | refine blk_alloc ?_ _)); refine blk_put (cs := #[.int .i64 t169, .int .i64 t170, .string t171, .bool false, .string (⟨#[]⟩ : ByteArray)]) ?_ 3 _ rfl; (with_reducible repeat (first | refine blk_drewN ?_ _ | refine blk_drew ?_ | refine blk_alloc ?_ _)); refine blk_put (cs := #[.int .i64 t169, .int .i64 t170, .string (⟨#[]⟩ : ByteArray), .bool false, .string (⟨#[]⟩ : ByteArray)]) ?_ 2 _ rfl; (with_reducible repeat (first | refine blk_drewN ?_ _ | refine blk_drew ?_ | refine blk_alloc ?_ _)); refine blk_put (cs := #[.int .i64 t169, .int .i64 0, .string (⟨#[]⟩ : ByteArray), .bool false, .string (⟨#[]⟩ : ByteArray)]) ?_ 1 _ rfl; (with_reducible repeat (first | refine blk_drewN ?_ _ | refine blk_drew ?_ | refine blk_alloc ?_ _)); refine blk_put (cs := #[.int .i64 0, .int .i64 0, .string (⟨#[]⟩ : ByteArray), .bool false, .string (⟨#[]⟩ : ByteArray)]) ?_ 0 _ rfl; (with_reducible repeat (first | refine blk_drewN ?_ _ | refine blk_drew ?_ | refine blk_alloc ?_ _)); exact BK177.out) k_ hk)); (case aO => exact (by (with_reducible repeat (first | apply Kd.R_alloc | apply Kd.R_drewN | apply Kd.R_drew)); exact Kd.R_mono (Kd.R_far (p := ⟨gb177, 4, none⟩) (Kd.R_far (p := ⟨gb177, 3, none⟩) (Kd.R_far (p := ⟨gb177, 2, none⟩) (Kd.R_far (p := ⟨gb177, 1, none⟩) (Kd.R_far (p := ⟨gb177, 0, none⟩) (Kd.R_mono HO_2.out (fun k_ hk => (⟨hk, hk.2⟩ : _ ∧ k_ ≠ gb177))) (fun _ hk => hk.2) (.int .i64 t169)) (fun _ hk => hk.2) (.int .i64 t170)) (fun _ hk => hk.2) (.string t171)) (fun _ hk => hk.2) (.bool t172)) (fun _ hk => hk.2) (.string t173)) (fun _ hk => hk.1.2))); (case aS => exact (below_size (by repeat (first | (with_reducible first | exact HB.out | apply below_alloc | apply pw_below_drewN | apply below_drew1 | refine below_set ?_ GE177.out) | exact HB.out)))); (case aL => have := LMc15.out; omega); intro v179 w19 ho hb hg hat; rw [← Ny178.out] at ho; have n0_ := Aside0.mk (blk_grown (g := gb177) (o := .cells #[.int .i64 t169, .int .i64 t170, .string t171, .bool t172, .string t173] 39 (0, 0)) (by (with_reducible repeat (first | refine blk_drewN ?_ _ | refine blk_drew ?_ | refine blk_alloc ?_ _)); refine blk_put (cs := #[.int .i64 t169, .int .i64 t170, .string t171, .bool t172, .string (⟨#[]⟩ : ByteArray)]) ?_ 4 _ rfl; (with_reducible repeat (first | refine blk_drewN ?_ _ | refine blk_drew ?_ | refine blk_alloc ?_ _)); refine blk_put (cs := #[.int .i64 t169, .int .i64 t170, .string t171, .bool false, .string (⟨#[]⟩ : ByteArray)]) ?_ 3 _ rfl; (with_reducible repeat (first | refine blk_drewN ?_ _ | refine blk_drew ?_ | refine blk_alloc ?_ _)); refine blk_put (cs := #[.int .i64 t169, .int .i64 t170, .string (⟨#[]⟩ : ByteArray), .bool false, .string (⟨#[]⟩ : ByteArray)]) ?_ 2 _ rfl; (with_reducible repeat (first | refine blk_drewN ?_ _ | refine blk_drew ?_ | refine blk_alloc ?_ _)); refine blk_put (cs := #[.int .i64 t169, .int .i64 0, .string (⟨#[]⟩ : ByteArray), .bool false, .string (⟨#[]⟩ : ByteArray)]) ?_ 1 _ rfl; (with_reducible repeat (first | refine blk_drewN ?_ _ | refine blk_drew ?_ | refine blk_alloc ?_ _)); refine blk_put (cs := #[.int .i64 0, .int .i64 0, .string (⟨#[]⟩ : ByteArray), .bool false, .string (⟨#[]⟩ : ByteArray)]) ?_ 0 _ rfl; (with_reducible repeat (first | refine blk_drewN ?_ _ | refine blk_drew ?_ | refine blk_alloc ?_ _)); exact BK177.out) hg (Kd.R_away HO_2.out (fun _ hk => hk.2))); have n1_ := Aside0.mk (hb); have n2_ := Aside0.mk (ho); clear BK177; clear HB; clear HO_2; have BK177 := n0_; have HB := n1_; have HO180 := n2_; clear n0_ n1_ n2_; clear ho hb hg hat))
                    go_roundg k1
                    case measure => have := HK1.out; omega
                    case rel => exact ⟨(y178), (wrap64 (x3_1 + t174)), (t175), (by first | rfl | (simp; done) | (simp [*]; done)), (by first | rfl | (simp; done) | (simp [*]; done)), H', ⟨by have := HK1.out; omega⟩, ⟨by (with_reducible repeat (first | apply Kd.R_alloc | apply Kd.R_drewN | apply Kd.R_drew)); exact Kd.R_mono HO180.out (fun _ hk => trivial)⟩, ⟨by repeat (first | (with_reducible first | exact HB.out | apply below_alloc | apply pw_below_drewN | apply below_drew1 | refine below_set ?_ GE177.out) | exact HB.out)⟩⟩
                  · rw [if_neg c15] at H
                    exact absurd H (by simp)
            · rw [if_neg c5] at H
              exact absurd H (by simp)
          · rw [if_neg c4] at H
            exact absurd H (by simp)
        · rw [if_neg c3] at H
          have c3b0 : decide (x3_1 < (a0.size : Int)) = false := decide_eq_false c3
          clear c3
          simp only [Option.some.injEq, Prod.mk.injEq] at H
          obtain ⟨rfl, rfl, rfl, rfl, rfl⟩ := H
          go_wp2
          refine bodyPost_ret (results_list (rs := [.tmp 2, .tmp 3, .tmp 4, .tmp 5, .tmp 6]) rfl (by simp) (.tmp (.tmp (.tmp (.tmp (.tmp .nil)))))) rfl ?_
          exact ⟨_, by first | rfl | (simp [errW_none, errW_some] <;> rfl) | (simp [*, errW_none, errW_some] <;> rfl), by (with_reducible repeat (first | apply Kd.R_alloc | apply Kd.R_drewN | apply Kd.R_drew)); exact HO_2.out, by repeat (first | (with_reducible first | exact HB.out | apply below_alloc | apply pw_below_drewN | apply below_drew1) | exact HB.out)⟩

/-! ### ringworklaw25_JournalReads: function 6 -/
def ringworklaw25_JournalReads.f (k : Nat) (a0 : ByteArray) : Option (Bool) := if (a0.size : Int) > 4000 then ((ringworklaw25_awake.f).bind fun t181 => (some t181)) else ((journal_Decode.f a0).bind fun bt182 => ((ringworkref25_Decode.f k a0).bind fun bt188 => ((ringworkref25_SameNotes.f k bt182.1 bt188.1).bind fun t195 => (if t195 = true then (if bt182.2.1 = bt188.2.1 then (if (bt182.2.2.1 == bt188.2.2.1) = true then (if bt182.2.2.2 = bt188.2.2.2.2 then ((ringworklaw25_awake.f).bind fun t196 => (some t196)) else (some false)) else (some false)) else (some false)) else (some false)))))
set_option maxHeartbeats 8000000 in
set_option maxRecDepth 100000 in
theorem ringworklaw25_JournalReads.calls (k : Nat) (a0 : ByteArray) (r : Bool) (w : World) (h : ringworklaw25_JournalReads.f k a0 = some r) :
    Calls Try.prog 6 #[.string a0] w fun e w' => e = .returned (.bool r) ∧ Below w.heap.size w w' := by
  have HB := Aside0.mk (Below.refl w.heap.size w)
  have H : (if (a0.size : Int) > 4000 then ((ringworklaw25_awake.f).bind fun t181 => (some t181)) else ((journal_Decode.f a0).bind fun bt182 => ((ringworkref25_Decode.f k a0).bind fun bt188 => ((ringworkref25_SameNotes.f k bt182.1 bt188.1).bind fun t195 => (if t195 = true then (if bt182.2.1 = bt188.2.1 then (if (bt182.2.2.1 == bt188.2.2.1) = true then (if bt182.2.2.2 = bt188.2.2.2.2 then ((ringworklaw25_awake.f).bind fun t196 => (some t196)) else (some false)) else (some false)) else (some false)) else (some false)))))) = some r := h
  clear h
  by_cases c2 : (a0.size : Int) > 4000
  · rw [if_pos c2] at H
    have c2b0 : decide (4000 < (a0.size : Int)) = true := decide_eq_true c2
    have c2b1 : decide (4000 < a0.size) = true := decide_eq_true (by omega)
    clear c2
    replace H := Option.bind_eq_some_iff.mp H
    obtain ⟨t181, A30, H⟩ := H
    replace H : (some t181) = some r := H
    have A3 := Aside0.mk A30
    clear A30
    obtain rfl := Option.some.inj H
    go_enter Try.func6, Try.ntmps6
    go_wp2_with (first | ((with_reducible refine gate_callee (f := 12) rfl ?_); refine goesL_ (some 15) rfl rfl Try.func12 (by kernel_rfl) rfl #[] rfl (by (try simp only [List.map_toArray, List.map_cons, List.map_nil]); first | done | rfl | (simp only [List.length_drop, List.length_take]; rfl)) ?_; (with_reducible refine (ringworklaw25_awake.calls  t181 _ A3.out).mono ?_); rintro e w4 ⟨rfl, hb⟩; refine ⟨_, rfl, ?_⟩; have n0_ := Aside0.mk (below_step (by repeat (first | (with_reducible first | exact HB.out | apply below_alloc | apply pw_below_drewN | apply below_drew1) | exact HB.out)) hb); clear HB; have HB := n0_; clear n0_; (try clear hb); (try clear hb2); (try clear hk); (try clear hi)))
    go_ret
    exact ⟨by first | rfl | (simp [errW_none, errW_some] <;> rfl) | (simp [*, errW_none, errW_some] <;> rfl), by repeat (first | (with_reducible first | exact HB.out | apply below_alloc | apply pw_below_drewN | apply below_drew1) | exact HB.out)⟩
  · rw [if_neg c2] at H
    have c2b0 : decide (4000 < (a0.size : Int)) = false := decide_eq_false c2
    have c2b1 : decide (4000 < a0.size) = false := decide_eq_false (by omega)
    clear c2
    replace H := Option.bind_eq_some_iff.mp H
    obtain ⟨⟨t182, t183, t184, t185⟩, A50, H⟩ := H
    replace H : ((ringworkref25_Decode.f k a0).bind fun bt188 => ((ringworkref25_SameNotes.f k t182 bt188.1).bind fun t195 => (if t195 = true then (if t183 = bt188.2.1 then (if (t184 == bt188.2.2.1) = true then (if t185 = bt188.2.2.2.2 then ((ringworklaw25_awake.f).bind fun t196 => (some t196)) else (some false)) else (some false)) else (some false)) else (some false)))) = some r := H
    have A5 := Aside0.mk A50
    clear A50
    replace H := Option.bind_eq_some_iff.mp H
    obtain ⟨⟨t188, t189, t190, t191, t192⟩, A60, H⟩ := H
    replace H : ((ringworkref25_SameNotes.f k t182 t188).bind fun t195 => (if t195 = true then (if t183 = t189 then (if (t184 == t190) = true then (if t185 = t192 then ((ringworklaw25_awake.f).bind fun t196 => (some t196)) else (some false)) else (some false)) else (some false)) else (some false))) = some r := H
    have A6 := Aside0.mk A60
    clear A60
    replace H := Option.bind_eq_some_iff.mp H
    obtain ⟨t195, A70, H⟩ := H
    replace H : (if t195 = true then (if t183 = t189 then (if (t184 == t190) = true then (if t185 = t192 then ((ringworklaw25_awake.f).bind fun t196 => (some t196)) else (some false)) else (some false)) else (some false)) else (some false)) = some r := H
    have A7 := Aside0.mk A70
    clear A70
    by_cases c8 : t195 = true
    · subst c8
      have H1 : (if t183 = t189 then (if (t184 == t190) = true then (if t185 = t192 then ((ringworklaw25_awake.f).bind fun t196 => (some t196)) else (some false)) else (some false)) else (some false)) = some r := by rw [if_pos rfl] at H; exact H
      clear H
      have H := H1
      clear H1
      by_cases c9 : t183 = t189
      · rw [if_pos c9] at H
        have c9b0 : (t183 == t189) = true := beq_iff_eq.mpr c9
        have c9b1 : (t183 != t189) = false := bne_eq_false_iff_eq.mpr c9
        clear c9
        by_cases c10 : (t184 == t190) = true
        · rw [if_pos c10] at H
          have c10b0 : (t184 == t190) = true := c10
          (try (have c10b1 : decide (t184 = t190) = true := by simpa using c10))
          (try (have c10b2 : (t184 == t190) = true := by simpa using c10))
          clear c10
          by_cases c11 : t185 = t192
          · rw [if_pos c11] at H
            have c11b0 : (t185 == t192) = true := beq_iff_eq.mpr c11
            have c11b1 : (t185 != t192) = false := bne_eq_false_iff_eq.mpr c11
            clear c11
            replace H := Option.bind_eq_some_iff.mp H
            obtain ⟨t196, A120, H⟩ := H
            replace H : (some t196) = some r := H
            have A12 := Aside0.mk A120
            clear A120
            obtain rfl := Option.some.inj H
            go_enter Try.func6, Try.ntmps6
            go_wp2_with (first | ((with_reducible refine gate_callee (f := 23) rfl ?_); refine goesL_ (some 18) rfl rfl Try.func23 (by kernel_rfl) rfl #[.string a0] rfl (by (try simp only [List.map_toArray, List.map_cons, List.map_nil]); first | done | rfl | (simp only [List.length_drop, List.length_take]; rfl)) ?_; (with_reducible refine (journal_Decode.calls a0 t182 t183 t184 t185 _ A5.out).mono ?_); rintro e w13 ⟨v186, rfl, ho0, hb⟩; refine ⟨_, rfl, ?_⟩; have n0_ := Aside0.mk (Kd.R_lower ho0 (below_size (by repeat (first | (with_reducible first | exact HB.out | apply below_alloc | apply pw_below_drewN | apply below_drew1) | exact HB.out)))); have n1_ := Aside0.mk (below_step (by repeat (first | (with_reducible first | exact HB.out | apply below_alloc | apply pw_below_drewN | apply below_drew1) | exact HB.out)) hb); clear HB; have HO187 := n0_; have HB := n1_; clear n0_ n1_; (try clear hb); (try clear hb2); (try clear hk); (try clear hi); (try clear ho0)) | ((with_reducible refine gate_callee (f := 24) rfl ?_); refine goesL_ (some 25) rfl rfl Try.func24 (by kernel_rfl) rfl #[.string a0] rfl (by (try simp only [List.map_toArray, List.map_cons, List.map_nil]); first | done | rfl | (simp only [List.length_drop, List.length_take]; rfl)) ?_; (with_reducible refine (ringworkref25_Decode.calls k a0 t188 t189 t190 t191 t192 _ A6.out).mono ?_); rintro e w14 ⟨v193, rfl, ho0, hb⟩; refine ⟨_, rfl, ?_⟩; have n0_ := Aside0.mk (Kd.R_elder' (by (with_reducible repeat (first | apply Kd.R_alloc | apply Kd.R_drewN | apply Kd.R_drew)); exact HO187.out) (Kd.R_base ho0) hb); have n1_ := Aside0.mk (Kd.R_lower (Kd.R_new' ho0 (Kd.R_lt (by (with_reducible repeat (first | apply Kd.R_alloc | apply Kd.R_drewN | apply Kd.R_drew)); exact HO187.out))) (below_size (by repeat (first | (with_reducible first | exact HB.out | apply below_alloc | apply pw_below_drewN | apply below_drew1) | exact HB.out)))); have n2_ := Aside0.mk (below_step (by repeat (first | (with_reducible first | exact HB.out | apply below_alloc | apply pw_below_drewN | apply below_drew1) | exact HB.out)) hb); clear HO187; clear HB; have HO187 := n0_; have HO194 := n1_; have HB := n2_; clear n0_ n1_ n2_; (try clear hb); (try clear hb2); (try clear hk); (try clear hi); (try clear ho0); obtain ⟨Ao15, co15, eo15⟩ := Kd.R_slice HO187.out; subst eo15; obtain ⟨Ao16, co16, eo16⟩ := Kd.R_slice HO194.out; subst eo16) | ((with_reducible refine gate_callee (f := 25) rfl ?_); refine goesL_ (some 33) rfl rfl Try.func25 (by kernel_rfl) rfl #[.slice Ao15 t182.length co15, .slice Ao16 t188.length co16] rfl (by (try simp only [List.map_toArray, List.map_cons, List.map_nil]); first | done | rfl | (simp only [List.length_drop, List.length_take]; rfl)) ?_; (with_reducible refine (ringworkref25_SameNotes.calls k _ _ t182 _ _ t188 true _ ?side1 ?side2 ?side3 ?side4 A7.out).mono ?_); (case side1 => repeat (first | exact (Kd.R_reads' HO187.out).2.2 | (with_reducible refine Kd.C_alloc ?_ _) | (with_reducible refine Kd.C_drewN ?_ _) | (with_reducible refine Kd.C_drew ?_))); (case side2 => exact (Kd.R_reads' HO187.out).2.1); (case side3 => repeat (first | exact (Kd.R_reads' HO194.out).2.2 | (with_reducible refine Kd.C_alloc ?_ _) | (with_reducible refine Kd.C_drewN ?_ _) | (with_reducible refine Kd.C_drew ?_))); (case side4 => exact (Kd.R_reads' HO194.out).2.1); rintro e w' ⟨rfl, ⟨nd, rfl⟩⟩; refine ⟨_, rfl, ?_⟩) | (go_at_call 12; (with_reducible refine (ringworklaw25_awake.calls  t196 _ A12.out).mono ?_); rintro e w17 ⟨rfl, hb⟩; have n0_ := Aside0.mk (Kd.R_below (by (with_reducible repeat (first | apply Kd.R_alloc | apply Kd.R_drewN | apply Kd.R_drew)); exact HO187.out) hb); have n1_ := Aside0.mk (Kd.R_below (by (with_reducible repeat (first | apply Kd.R_alloc | apply Kd.R_drewN | apply Kd.R_drew)); exact HO194.out) hb); have n2_ := Aside0.mk (below_step (by repeat (first | (with_reducible first | exact HB.out | apply below_alloc | apply pw_below_drewN | apply below_drew1) | exact HB.out)) hb); clear HO187; clear HO194; clear HB; have HO187 := n0_; have HO194 := n1_; have HB := n2_; clear n0_ n1_ n2_; (try clear hb); (try clear hb2); (try clear hk); (try clear hi)))
            go_ret
            exact ⟨by first | rfl | (simp [errW_none, errW_some] <;> rfl) | (simp [*, errW_none, errW_some] <;> rfl), by repeat (first | (with_reducible first | exact HB.out | apply below_alloc | apply pw_below_drewN | apply below_drew1) | exact HB.out)⟩
          · rw [if_neg c11] at H
            have c11b0 : (t185 == t192) = false := beq_eq_false_iff_ne.mpr c11
            have c11b1 : (t185 != t192) = true := bne_iff_ne.mpr c11
            obtain rfl := Option.some.inj H
            go_enter Try.func6, Try.ntmps6
            go_wp2_with (first | ((with_reducible refine gate_callee (f := 23) rfl ?_); refine goesL_ (some 18) rfl rfl Try.func23 (by kernel_rfl) rfl #[.string a0] rfl (by (try simp only [List.map_toArray, List.map_cons, List.map_nil]); first | done | rfl | (simp only [List.length_drop, List.length_take]; rfl)) ?_; (with_reducible refine (journal_Decode.calls a0 t182 t183 t184 t185 _ A5.out).mono ?_); rintro e w18 ⟨v186, rfl, ho0, hb⟩; refine ⟨_, rfl, ?_⟩; have n0_ := Aside0.mk (Kd.R_lower ho0 (below_size (by repeat (first | (with_reducible first | exact HB.out | apply below_alloc | apply pw_below_drewN | apply below_drew1) | exact HB.out)))); have n1_ := Aside0.mk (below_step (by repeat (first | (with_reducible first | exact HB.out | apply below_alloc | apply pw_below_drewN | apply below_drew1) | exact HB.out)) hb); clear HB; have HO187 := n0_; have HB := n1_; clear n0_ n1_; (try clear hb); (try clear hb2); (try clear hk); (try clear hi); (try clear ho0)) | ((with_reducible refine gate_callee (f := 24) rfl ?_); refine goesL_ (some 25) rfl rfl Try.func24 (by kernel_rfl) rfl #[.string a0] rfl (by (try simp only [List.map_toArray, List.map_cons, List.map_nil]); first | done | rfl | (simp only [List.length_drop, List.length_take]; rfl)) ?_; (with_reducible refine (ringworkref25_Decode.calls k a0 t188 t189 t190 t191 t192 _ A6.out).mono ?_); rintro e w19 ⟨v193, rfl, ho0, hb⟩; refine ⟨_, rfl, ?_⟩; have n0_ := Aside0.mk (Kd.R_elder' (by (with_reducible repeat (first | apply Kd.R_alloc | apply Kd.R_drewN | apply Kd.R_drew)); exact HO187.out) (Kd.R_base ho0) hb); have n1_ := Aside0.mk (Kd.R_lower (Kd.R_new' ho0 (Kd.R_lt (by (with_reducible repeat (first | apply Kd.R_alloc | apply Kd.R_drewN | apply Kd.R_drew)); exact HO187.out))) (below_size (by repeat (first | (with_reducible first | exact HB.out | apply below_alloc | apply pw_below_drewN | apply below_drew1) | exact HB.out)))); have n2_ := Aside0.mk (below_step (by repeat (first | (with_reducible first | exact HB.out | apply below_alloc | apply pw_below_drewN | apply below_drew1) | exact HB.out)) hb); clear HO187; clear HB; have HO187 := n0_; have HO194 := n1_; have HB := n2_; clear n0_ n1_ n2_; (try clear hb); (try clear hb2); (try clear hk); (try clear hi); (try clear ho0); obtain ⟨Ao20, co20, eo20⟩ := Kd.R_slice HO187.out; subst eo20; obtain ⟨Ao21, co21, eo21⟩ := Kd.R_slice HO194.out; subst eo21) | ((with_reducible refine gate_callee (f := 25) rfl ?_); refine goesL_ (some 33) rfl rfl Try.func25 (by kernel_rfl) rfl #[.slice Ao20 t182.length co20, .slice Ao21 t188.length co21] rfl (by (try simp only [List.map_toArray, List.map_cons, List.map_nil]); first | done | rfl | (simp only [List.length_drop, List.length_take]; rfl)) ?_; (with_reducible refine (ringworkref25_SameNotes.calls k _ _ t182 _ _ t188 true _ ?side1 ?side2 ?side3 ?side4 A7.out).mono ?_); (case side1 => repeat (first | exact (Kd.R_reads' HO187.out).2.2 | (with_reducible refine Kd.C_alloc ?_ _) | (with_reducible refine Kd.C_drewN ?_ _) | (with_reducible refine Kd.C_drew ?_))); (case side2 => exact (Kd.R_reads' HO187.out).2.1); (case side3 => repeat (first | exact (Kd.R_reads' HO194.out).2.2 | (with_reducible refine Kd.C_alloc ?_ _) | (with_reducible refine Kd.C_drewN ?_ _) | (with_reducible refine Kd.C_drew ?_))); (case side4 => exact (Kd.R_reads' HO194.out).2.1); rintro e w' ⟨rfl, ⟨nd, rfl⟩⟩; refine ⟨_, rfl, ?_⟩))
            go_ret
            exact ⟨by first | rfl | (simp [errW_none, errW_some] <;> rfl) | (simp [*, errW_none, errW_some] <;> rfl), by repeat (first | (with_reducible first | exact HB.out | apply below_alloc | apply pw_below_drewN | apply below_drew1) | exact HB.out)⟩
        · rw [if_neg c10] at H
          have c10b0 : (t184 == t190) = false := by simpa using c10
          (try (have c10b1 : decide (t184 = t190) = false := by simpa using c10))
          (try (have c10b2 : (t184 == t190) = false := by simpa using c10))
          (try (have c10b3 : ¬ (t184 = t190) := by simpa using c10))
          clear c10
          obtain rfl := Option.some.inj H
          go_enter Try.func6, Try.ntmps6
          go_wp2_with (first | ((with_reducible refine gate_callee (f := 23) rfl ?_); refine goesL_ (some 18) rfl rfl Try.func23 (by kernel_rfl) rfl #[.string a0] rfl (by (try simp only [List.map_toArray, List.map_cons, List.map_nil]); first | done | rfl | (simp only [List.length_drop, List.length_take]; rfl)) ?_; (with_reducible refine (journal_Decode.calls a0 t182 t183 t184 t185 _ A5.out).mono ?_); rintro e w22 ⟨v186, rfl, ho0, hb⟩; refine ⟨_, rfl, ?_⟩; have n0_ := Aside0.mk (Kd.R_lower ho0 (below_size (by repeat (first | (with_reducible first | exact HB.out | apply below_alloc | apply pw_below_drewN | apply below_drew1) | exact HB.out)))); have n1_ := Aside0.mk (below_step (by repeat (first | (with_reducible first | exact HB.out | apply below_alloc | apply pw_below_drewN | apply below_drew1) | exact HB.out)) hb); clear HB; have HO187 := n0_; have HB := n1_; clear n0_ n1_; (try clear hb); (try clear hb2); (try clear hk); (try clear hi); (try clear ho0)) | ((with_reducible refine gate_callee (f := 24) rfl ?_); refine goesL_ (some 25) rfl rfl Try.func24 (by kernel_rfl) rfl #[.string a0] rfl (by (try simp only [List.map_toArray, List.map_cons, List.map_nil]); first | done | rfl | (simp only [List.length_drop, List.length_take]; rfl)) ?_; (with_reducible refine (ringworkref25_Decode.calls k a0 t188 t189 t190 t191 t192 _ A6.out).mono ?_); rintro e w23 ⟨v193, rfl, ho0, hb⟩; refine ⟨_, rfl, ?_⟩; have n0_ := Aside0.mk (Kd.R_elder' (by (with_reducible repeat (first | apply Kd.R_alloc | apply Kd.R_drewN | apply Kd.R_drew)); exact HO187.out) (Kd.R_base ho0) hb); have n1_ := Aside0.mk (Kd.R_lower (Kd.R_new' ho0 (Kd.R_lt (by (with_reducible repeat (first | apply Kd.R_alloc | apply Kd.R_drewN | apply Kd.R_drew)); exact HO187.out))) (below_size (by repeat (first | (with_reducible first | exact HB.out | apply below_alloc | apply pw_below_drewN | apply below_drew1) | exact HB.out)))); have n2_ := Aside0.mk (below_step (by repeat (first | (with_reducible first | exact HB.out | apply below_alloc | apply pw_below_drewN | apply below_drew1) | exact HB.out)) hb); clear HO187; clear HB; have HO187 := n0_; have HO194 := n1_; have HB := n2_; clear n0_ n1_ n2_; (try clear hb); (try clear hb2); (try clear hk); (try clear hi); (try clear ho0); obtain ⟨Ao24, co24, eo24⟩ := Kd.R_slice HO187.out; subst eo24; obtain ⟨Ao25, co25, eo25⟩ := Kd.R_slice HO194.out; subst eo25) | ((with_reducible refine gate_callee (f := 25) rfl ?_); refine goesL_ (some 33) rfl rfl Try.func25 (by kernel_rfl) rfl #[.slice Ao24 t182.length co24, .slice Ao25 t188.length co25] rfl (by (try simp only [List.map_toArray, List.map_cons, List.map_nil]); first | done | rfl | (simp only [List.length_drop, List.length_take]; rfl)) ?_; (with_reducible refine (ringworkref25_SameNotes.calls k _ _ t182 _ _ t188 true _ ?side1 ?side2 ?side3 ?side4 A7.out).mono ?_); (case side1 => repeat (first | exact (Kd.R_reads' HO187.out).2.2 | (with_reducible refine Kd.C_alloc ?_ _) | (with_reducible refine Kd.C_drewN ?_ _) | (with_reducible refine Kd.C_drew ?_))); (case side2 => exact (Kd.R_reads' HO187.out).2.1); (case side3 => repeat (first | exact (Kd.R_reads' HO194.out).2.2 | (with_reducible refine Kd.C_alloc ?_ _) | (with_reducible refine Kd.C_drewN ?_ _) | (with_reducible refine Kd.C_drew ?_))); (case side4 => exact (Kd.R_reads' HO194.out).2.1); rintro e w' ⟨rfl, ⟨nd, rfl⟩⟩; refine ⟨_, rfl, ?_⟩))
          go_ret
          exact ⟨by first | rfl | (simp [errW_none, errW_some] <;> rfl) | (simp [*, errW_none, errW_some] <;> rfl), by repeat (first | (with_reducible first | exact HB.out | apply below_alloc | apply pw_below_drewN | apply below_drew1) | exact HB.out)⟩
      · rw [if_neg c9] at H
        have c9b0 : (t183 == t189) = false := beq_eq_false_iff_ne.mpr c9
        have c9b1 : (t183 != t189) = true := bne_iff_ne.mpr c9
        obtain rfl := Option.some.inj H
        go_enter Try.func6, Try.ntmps6
        go_wp2_with (first | ((with_reducible refine gate_callee (f := 23) rfl ?_); refine goesL_ (some 18) rfl rfl Try.func23 (by kernel_rfl) rfl #[.string a0] rfl (by (try simp only [List.map_toArray, List.map_cons, List.map_nil]); first | done | rfl | (simp only [List.length_drop, List.length_take]; rfl)) ?_; (with_reducible refine (journal_Decode.calls a0 t182 t183 t184 t185 _ A5.out).mono ?_); rintro e w26 ⟨v186, rfl, ho0, hb⟩; refine ⟨_, rfl, ?_⟩; have n0_ := Aside0.mk (Kd.R_lower ho0 (below_size (by repeat (first | (with_reducible first | exact HB.out | apply below_alloc | apply pw_below_drewN | apply below_drew1) | exact HB.out)))); have n1_ := Aside0.mk (below_step (by repeat (first | (with_reducible first | exact HB.out | apply below_alloc | apply pw_below_drewN | apply below_drew1) | exact HB.out)) hb); clear HB; have HO187 := n0_; have HB := n1_; clear n0_ n1_; (try clear hb); (try clear hb2); (try clear hk); (try clear hi); (try clear ho0)) | ((with_reducible refine gate_callee (f := 24) rfl ?_); refine goesL_ (some 25) rfl rfl Try.func24 (by kernel_rfl) rfl #[.string a0] rfl (by (try simp only [List.map_toArray, List.map_cons, List.map_nil]); first | done | rfl | (simp only [List.length_drop, List.length_take]; rfl)) ?_; (with_reducible refine (ringworkref25_Decode.calls k a0 t188 t189 t190 t191 t192 _ A6.out).mono ?_); rintro e w27 ⟨v193, rfl, ho0, hb⟩; refine ⟨_, rfl, ?_⟩; have n0_ := Aside0.mk (Kd.R_elder' (by (with_reducible repeat (first | apply Kd.R_alloc | apply Kd.R_drewN | apply Kd.R_drew)); exact HO187.out) (Kd.R_base ho0) hb); have n1_ := Aside0.mk (Kd.R_lower (Kd.R_new' ho0 (Kd.R_lt (by (with_reducible repeat (first | apply Kd.R_alloc | apply Kd.R_drewN | apply Kd.R_drew)); exact HO187.out))) (below_size (by repeat (first | (with_reducible first | exact HB.out | apply below_alloc | apply pw_below_drewN | apply below_drew1) | exact HB.out)))); have n2_ := Aside0.mk (below_step (by repeat (first | (with_reducible first | exact HB.out | apply below_alloc | apply pw_below_drewN | apply below_drew1) | exact HB.out)) hb); clear HO187; clear HB; have HO187 := n0_; have HO194 := n1_; have HB := n2_; clear n0_ n1_ n2_; (try clear hb); (try clear hb2); (try clear hk); (try clear hi); (try clear ho0); obtain ⟨Ao28, co28, eo28⟩ := Kd.R_slice HO187.out; subst eo28; obtain ⟨Ao29, co29, eo29⟩ := Kd.R_slice HO194.out; subst eo29) | ((with_reducible refine gate_callee (f := 25) rfl ?_); refine goesL_ (some 33) rfl rfl Try.func25 (by kernel_rfl) rfl #[.slice Ao28 t182.length co28, .slice Ao29 t188.length co29] rfl (by (try simp only [List.map_toArray, List.map_cons, List.map_nil]); first | done | rfl | (simp only [List.length_drop, List.length_take]; rfl)) ?_; (with_reducible refine (ringworkref25_SameNotes.calls k _ _ t182 _ _ t188 true _ ?side1 ?side2 ?side3 ?side4 A7.out).mono ?_); (case side1 => repeat (first | exact (Kd.R_reads' HO187.out).2.2 | (with_reducible refine Kd.C_alloc ?_ _) | (with_reducible refine Kd.C_drewN ?_ _) | (with_reducible refine Kd.C_drew ?_))); (case side2 => exact (Kd.R_reads' HO187.out).2.1); (case side3 => repeat (first | exact (Kd.R_reads' HO194.out).2.2 | (with_reducible refine Kd.C_alloc ?_ _) | (with_reducible refine Kd.C_drewN ?_ _) | (with_reducible refine Kd.C_drew ?_))); (case side4 => exact (Kd.R_reads' HO194.out).2.1); rintro e w' ⟨rfl, ⟨nd, rfl⟩⟩; refine ⟨_, rfl, ?_⟩))
        go_ret
        exact ⟨by first | rfl | (simp [errW_none, errW_some] <;> rfl) | (simp [*, errW_none, errW_some] <;> rfl), by repeat (first | (with_reducible first | exact HB.out | apply below_alloc | apply pw_below_drewN | apply below_drew1) | exact HB.out)⟩
    · replace c8 := Bool.eq_false_iff.mpr c8
      subst c8
      have H1 : (some false) = some r := by rw [if_neg (show ¬ (false = true) by decide)] at H; exact H
      clear H
      have H := H1
      clear H1
      obtain rfl := Option.some.inj H
      go_enter Try.func6, Try.ntmps6
      go_wp2_with (first | ((with_reducible refine gate_callee (f := 23) rfl ?_); refine goesL_ (some 18) rfl rfl Try.func23 (by kernel_rfl) rfl #[.string a0] rfl (by (try simp only [List.map_toArray, List.map_cons, List.map_nil]); first | done | rfl | (simp only [List.length_drop, List.length_take]; rfl)) ?_; (with_reducible refine (journal_Decode.calls a0 t182 t183 t184 t185 _ A5.out).mono ?_); rintro e w30 ⟨v186, rfl, ho0, hb⟩; refine ⟨_, rfl, ?_⟩; have n0_ := Aside0.mk (Kd.R_lower ho0 (below_size (by repeat (first | (with_reducible first | exact HB.out | apply below_alloc | apply pw_below_drewN | apply below_drew1) | exact HB.out)))); have n1_ := Aside0.mk (below_step (by repeat (first | (with_reducible first | exact HB.out | apply below_alloc | apply pw_below_drewN | apply below_drew1) | exact HB.out)) hb); clear HB; have HO187 := n0_; have HB := n1_; clear n0_ n1_; (try clear hb); (try clear hb2); (try clear hk); (try clear hi); (try clear ho0)) | ((with_reducible refine gate_callee (f := 24) rfl ?_); refine goesL_ (some 25) rfl rfl Try.func24 (by kernel_rfl) rfl #[.string a0] rfl (by (try simp only [List.map_toArray, List.map_cons, List.map_nil]); first | done | rfl | (simp only [List.length_drop, List.length_take]; rfl)) ?_; (with_reducible refine (ringworkref25_Decode.calls k a0 t188 t189 t190 t191 t192 _ A6.out).mono ?_); rintro e w31 ⟨v193, rfl, ho0, hb⟩; refine ⟨_, rfl, ?_⟩; have n0_ := Aside0.mk (Kd.R_elder' (by (with_reducible repeat (first | apply Kd.R_alloc | apply Kd.R_drewN | apply Kd.R_drew)); exact HO187.out) (Kd.R_base ho0) hb); have n1_ := Aside0.mk (Kd.R_lower (Kd.R_new' ho0 (Kd.R_lt (by (with_reducible repeat (first | apply Kd.R_alloc | apply Kd.R_drewN | apply Kd.R_drew)); exact HO187.out))) (below_size (by repeat (first | (with_reducible first | exact HB.out | apply below_alloc | apply pw_below_drewN | apply below_drew1) | exact HB.out)))); have n2_ := Aside0.mk (below_step (by repeat (first | (with_reducible first | exact HB.out | apply below_alloc | apply pw_below_drewN | apply below_drew1) | exact HB.out)) hb); clear HO187; clear HB; have HO187 := n0_; have HO194 := n1_; have HB := n2_; clear n0_ n1_ n2_; (try clear hb); (try clear hb2); (try clear hk); (try clear hi); (try clear ho0); obtain ⟨Ao32, co32, eo32⟩ := Kd.R_slice HO187.out; subst eo32; obtain ⟨Ao33, co33, eo33⟩ := Kd.R_slice HO194.out; subst eo33) | ((with_reducible refine gate_callee (f := 25) rfl ?_); refine goesL_ (some 33) rfl rfl Try.func25 (by kernel_rfl) rfl #[.slice Ao32 t182.length co32, .slice Ao33 t188.length co33] rfl (by (try simp only [List.map_toArray, List.map_cons, List.map_nil]); first | done | rfl | (simp only [List.length_drop, List.length_take]; rfl)) ?_; (with_reducible refine (ringworkref25_SameNotes.calls k _ _ t182 _ _ t188 false _ ?side1 ?side2 ?side3 ?side4 A7.out).mono ?_); (case side1 => repeat (first | exact (Kd.R_reads' HO187.out).2.2 | (with_reducible refine Kd.C_alloc ?_ _) | (with_reducible refine Kd.C_drewN ?_ _) | (with_reducible refine Kd.C_drew ?_))); (case side2 => exact (Kd.R_reads' HO187.out).2.1); (case side3 => repeat (first | exact (Kd.R_reads' HO194.out).2.2 | (with_reducible refine Kd.C_alloc ?_ _) | (with_reducible refine Kd.C_drewN ?_ _) | (with_reducible refine Kd.C_drew ?_))); (case side4 => exact (Kd.R_reads' HO194.out).2.1); rintro e w' ⟨rfl, ⟨nd, rfl⟩⟩; refine ⟨_, rfl, ?_⟩))
      go_ret
      exact ⟨by first | rfl | (simp [errW_none, errW_some] <;> rfl) | (simp [*, errW_none, errW_some] <;> rfl), by repeat (first | (with_reducible first | exact HB.out | apply below_alloc | apply pw_below_drewN | apply below_drew1) | exact HB.out)⟩

/-- THE ONE PURE STATEMENT of ringworklaw25_JournalReads: yours. -/
def ringworklaw25_JournalReads.Pure : Prop := ∀ (a0 : ByteArray), a0.size ≤ 140737488351232 → ∃ k, ringworklaw25_JournalReads.f k a0 = some true
theorem ringworklaw25_JournalReads.walk (P : ringworklaw25_JournalReads.Pure) (a0 : ByteArray) (w : World) (w0 : a0.size ≤ 140737488351232) :
    Calls Try.prog 6 #[.string a0] w fun e w' => e = .returned (.bool true) ∧ Below w.heap.size w w' := by
  obtain ⟨k, h⟩ := P a0 w0
  refine (ringworklaw25_JournalReads.calls k a0 true w h).mono ?_
  rintro e w' ⟨rfl, hd⟩
  exact ⟨rfl, hd⟩

end Go.Proofs.Yteblpjnkinghoaa.J
/- How a function that counts its rounds comes to its value. -/
namespace Go.Proofs.Yteblpjnkinghoaa.J
open Go.RowKit Go.Proofs.YteblpjnkinghoaaW.PrintWords
/-- From some number of rounds on, the value is there. -/
def Ev {α : Type} (g : Nat → Option α) (v : α) : Prop := ∃ K, ∀ k, K ≤ k → g k = some v
namespace Ev
theorem of {α : Type} {g : Nat → Option α} {v : α} (h : ∀ k, g k = some v) : Ev g v := ⟨0, fun k _ => h k⟩
theorem val {α : Type} (v : α) : Ev (fun _ => some v) v := of fun _ => rfl
theorem bind {α β : Type} {f : Nat → Option α} {g : Nat → α → Option β} {a : α} {v : β} (hf : Ev f a) (hg : Ev (fun k => g k a) v) : Ev (fun k => (f k).bind (g k)) v := by
  obtain ⟨K, h⟩ := hf
  obtain ⟨K', h'⟩ := hg
  exact ⟨max K K', fun k hk => by
    have h1 := h k (by omega)
    have h2 := h' k (by omega)
    show (f k).bind (g k) = _
    rw [h1]; exact h2⟩
theorem step {α : Type} {g body : Nat → Option α} {v : α} (e : ∀ k, g (k + 1) = body k) (h : Ev body v) : Ev g v := by
  obtain ⟨K, h⟩ := h
  exact ⟨K + 1, fun k hk => by
    obtain ⟨j, rfl⟩ : ∃ j, k = j + 1 := ⟨k - 1, by omega⟩
    rw [e]; exact h j (by omega)⟩
theorem congr {α : Type} {g body : Nat → Option α} {v : α} (h : Ev body v) (e : ∀ k, g k = body k) : Ev g v := by
  obtain ⟨K, h⟩ := h
  exact ⟨K, fun k hk => (e k).trans (h k hk)⟩
theorem ex {α : Type} {g : Nat → Option α} {v : α} (h : Ev g v) : ∃ k, g k = some v := by
  obtain ⟨K, h⟩ := h
  exact ⟨K, h K (Nat.le_refl _)⟩
end Ev
theorem Ev.mono {α : Type} {g : Nat → Option α} {v : α} (h : ∀ k, LeO (g k) (g (k + 1))) {K : Nat} (hv : g K = some v) : Ev g v := ⟨K, fun _ hk => at_rounds h hk hv⟩
end Go.Proofs.Yteblpjnkinghoaa.J
/- The reference's Decode is the program's; SameNotes of a list and itself; the sanity check. -/
set_option linter.unusedVariables false
set_option linter.unusedSimpArgs false
namespace Go.Proofs.Yteblpjnkinghoaa.J
open Go.RowKit Go.Proofs.YteblpjnkinghoaaW.PrintWords Go.Proofs.YteblpjnkinghoaaW.PrintLast Go.Proofs.YteblpjnkinghoaaW.PrintMore
theorem awake_true : ringworklaw25_awake.f = some true := by kernel_rfl
theorem wrap_up {k n : Nat} (h : k < n) (hn : n ≤ 9223372036854775807) : wrap64 ((k : Int) + 1) = ((k + 1 : Nat) : Int) := by unfold wrap64; omega
theorem same_notes_from (a : List S39) (hl : a.length ≤ 9223372036854775807) : ∀ (d i : Nat), d = a.length - i → i ≤ a.length → Ev (fun k => ringworkref25_SameNotes.l0 k a a (i : Int)) true
  | 0, i, hd, hi => by
    have : i = a.length := by omega
    subst this
    exact Ev.step (fun k => by rw [ringworkref25_SameNotes.l0, if_neg (by omega)]) (Ev.val _)
  | d + 1, i, hd, hi => by
    have hlt : i < a.length := by omega
    refine Ev.step (fun k => by rw [ringworkref25_SameNotes.l0, if_pos (by omega), if_pos (by omega), if_pos (by omega), if_neg (by simp)]) ?_
    rw [wrap_up hlt hl]
    exact same_notes_from a hl d (i + 1) (by omega) (by omega)
theorem same_notes (a : List S39) (hl : a.length ≤ 9223372036854775807) : Ev (fun k => ringworkref25_SameNotes.f k a a) true := by
  unfold ringworkref25_SameNotes.f
  simp only [if_true]
  exact same_notes_from a hl a.length 0 (by omega) (by omega)
theorem rest_extract (s : ByteArray) (i : Int) (h0 : 0 ≤ i) (h1 : i ≤ (s.size : Int)) : Rest s (s.extract i.toNat s.size) i where
  i0 := h0
  sz := by rw [ByteArray.size_extract]; omega
  bt_ := by
    intro j j0 j1
    rw [ByteArray.size_extract] at j1
    have := bt_extract s i.toNat s.size j.toNat (by omega) (Nat.le_refl _)
    rw [show ((j.toNat : Nat) : Int) = j by omega, show ((i.toNat + j.toNat : Nat) : Int) = i + j by omega] at this
    exact this
  ex := by
    intro a b a0 ab hb
    rw [ByteArray.size_extract] at hb
    rw [ByteArray.extract_extract, show i.toNat + a.toNat = (i + a).toNat by omega, show min (i.toNat + b.toNat) s.size = (i + b).toNat by omega]
theorem ref_decode (s : ByteArray) (hs : s.size ≤ 65536) : ∀ (m : Nat) (i sum : Int) (pre : List S39), 0 ≤ i → i ≤ (s.size : Int) → (s.size : Int) - i < m → (pre.length : Int) ≤ i →
    Ev (fun k => ringworkref25_Decode.l0 k s pre i sum) (pre ++ (decGo s m i sum).1, (decGo s m i sum).2.1, (decGo s m i sum).2.2.2.1, (decGo s m i sum).2.2.1, (decGo s m i sum).2.2.2.2) := by
  intro m
  induction m with
  | zero => intro i sum pre h0 h1 h2; omega
  | succ m ih =>
    intro i sum pre h0 h1 h2 hp
    by_cases hlt : i < (s.size : Int)
    · have hsame := look_peek (rest_extract s i h0 h1) sum
      have hsz : (s.extract i.toNat s.size).size ≤ 1000000 := by rw [ByteArray.size_extract]; omega
      have hlk : ringworkref25_look.f (s.extract i.toNat s.size) sum = some ((lookF (s.extract i.toNat s.size) sum).1.f0, (lookF (s.extract i.toNat s.size) sum).1.f1, (lookF (s.extract i.toNat s.size) sum).1.f2, (lookF (s.extract i.toNat s.size) sum).1.f3, (lookF (s.extract i.toNat s.size) sum).1.f4, (lookF (s.extract i.toNat s.size) sum).2.1, (lookF (s.extract i.toNat s.size) sum).2.2.1, (lookF (s.extract i.toNat s.size) sum).2.2.2) := by
        unfold ringworkref25_look.f; rw [if_pos hsz]
      refine Ev.step (fun k => by rw [ringworkref25_Decode.l0, if_pos hlt, if_pos h0, if_pos h1, hlk, Option.bind_some]) ?_
      rw [decGo, if_pos hlt]
      cases hpk : peek s i sum with
      | torn =>
        rw [hpk] at hsame
        obtain ⟨n, hn⟩ := hsame
        simp only [hn, if_true, List.append_nil]
        exact Ev.val _
      | wrong =>
        rw [hpk] at hsame
        obtain ⟨n, hn⟩ := hsame
        simp only [hn, if_true, List.append_nil, Bool.false_eq_true, if_false]
        exact Ev.val _
      | ok n sm fin =>
        rw [hpk] at hsame
        have hn : lookF (s.extract i.toNat s.size) sum = (n, fin - i, sm, false) := hsame
        have hf := peek_fin h0 hpk
        simp only [hn, Bool.false_eq_true, if_false]
        simp only [if_neg (show ¬ fin - i = 0 by omega), if_pos (show pre.length < 2513169434916 by omega), show wrap64 (i + (fin - i)) = fin by unfold wrap64; omega]
        have := ih fin sm (pre ++ [n]) (by omega) hf.2 (by omega) (by rw [List.length_append]; simp; omega)
        rw [List.append_assoc, List.singleton_append] at this
        exact this
    · refine Ev.step (fun k => by rw [ringworkref25_Decode.l0, if_neg hlt]) ?_
      rw [decGo, if_neg hlt]
      simp only [List.append_nil]
      exact Ev.val _
/-- How many notes there can be. -/
theorem decGo_len (s : ByteArray) : ∀ (m : Nat) (i sum : Int), 0 ≤ i → i ≤ (s.size : Int) → ((decGo s m i sum).1.length : Int) ≤ s.size - i := by
  intro m
  induction m with
  | zero => intro i sum h0 h1; simp [decGo]; omega
  | succ m ih =>
    intro i sum h0 h1
    rw [decGo]
    split
    · cases hpk : peek s i sum with
      | torn => simp; omega
      | wrong => simp; omega
      | ok n sm fin =>
        have hf := peek_fin h0 hpk
        have := ih fin sm (by omega) hf.2
        simp only [List.length_cons]
        push_cast
        omega
    · simp; omega
/-- The reference's Decode and the program's. -/
theorem dec_prog (s : ByteArray) (hs : s.size ≤ 65536) : journal_Decode.f s = some ((decGo s (s.size + 1) 0 0).1, (decGo s (s.size + 1) 0 0).2.1, (decGo s (s.size + 1) 0 0).2.2.2.1, (decGo s (s.size + 1) 0 0).2.2.2.2) := by
  unfold journal_Decode.f
  rw [if_neg (by omega)]
theorem dec_ref (s : ByteArray) (hs : s.size ≤ 65536) : Ev (fun k => ringworkref25_Decode.f k s) ((decGo s (s.size + 1) 0 0).1, (decGo s (s.size + 1) 0 0).2.1, (decGo s (s.size + 1) 0 0).2.2.2.1, (decGo s (s.size + 1) 0 0).2.2.1, (decGo s (s.size + 1) 0 0).2.2.2.2) := by
  unfold ringworkref25_Decode.f
  simp only [if_neg (show ¬ (s.size : Int) > 65536 by omega)]
  exact ref_decode s hs (s.size + 1) 0 0 [] (by omega) (by omega) (by omega) (by simp)
end Go.Proofs.Yteblpjnkinghoaa.J
/- JournalReads, the plain law: the program's Decode answers as the reference's. -/
namespace Go.Proofs.Yteblpjnkinghoaa.Pure
open Go.RowKit Go.Proofs.Yteblpjnkinghoaa.J Go.Proofs.YteblpjnkinghoaaW.PrintWords Go.Proofs.YteblpjnkinghoaaW.PrintLast
theorem JournalReads : ringworklaw25_JournalReads.Pure := by
  intro a0 h
  refine J.Ev.ex ?_
  unfold ringworklaw25_JournalReads.f
  by_cases hs : (a0.size : Int) > 4000
  · simp only [if_pos hs, awake_true, Option.bind_some]
    exact J.Ev.val _
  · simp only [if_neg hs, dec_prog a0 (by omega), Option.bind_some]
    refine J.Ev.bind (dec_ref a0 (by omega)) ?_
    have hl := decGo_len a0 (a0.size + 1) 0 0 (by omega) (by omega)
    refine J.Ev.bind (same_notes _ (by omega)) ?_
    simp only [if_true, beq_self_eq_true, awake_true, Option.bind_some]
    exact J.Ev.val _

end Go.Proofs.Yteblpjnkinghoaa.Pure
namespace Go.Proofs.Yteblpjnkinghoaa.journalReads
open Go.ChangeShapes Go.WideShapes Go.ChangeAt Go.RowKit
open Go.ChangeMaps (open_string shut_string)
set_option linter.unusedVariables false
theorem own : ownKnob Try.prog.godebug = none := by kernel_rfl
set_option maxRecDepth 100000 in
theorem lifted (os : Os) (started : os.Started) (H : Type) (enc : TypeId × Value → H) :
    ReturnsInHanded {} Try.checked os 6 .any (Rows.journalReadsSpec.pre6 enc Try.prog Try.f6 Rows.journalReadsRow.domain false) (Rows.journalReadsSpec.post enc Try.prog Try.f6 false true false false) := by
  refine returnsInHanded_of_change_sized (C := Try.checked) own started (by kernel_rfl) Try.func6
    (ChangeSpec.witness6 (enc := enc) (C := Try.checked) false ⟨#[], #[.string ByteArray.empty], []⟩ 8 (by kernel_rfl) (by kernel_rfl) (by kernel_rfl) (by kernel_rfl)) ?_
  intro W base args ds gs before hval0 hW hcnd hsz0 _
  have hsz : (DataW.weightsEach Try.prog (Try.f6.params.toList ++ Rows.journalReadsSpec.plain.varTypes Try.prog) (ds ++ gs)).all (· ≤ reachBytes) = true := hsz0
  have hval : ∀ (j : Nat) t v, Try.f6.params[j]? = some t → args[j]? = some v → Value.okWide Try.prog W .any base t v := hval0
  have hW' := hW
  obtain ⟨p, q, hA0, hV, rfl, hfz, hnd⟩ := hW
  have hA : DataW.TrodAll enc Try.prog W 0 (fun _ => true) true Try.f6.params.toList args.toList ds p := hA0
  rw [Try.params6] at hA hval hsz
  obtain ⟨v0, vs0, d0, ds0, p0, q0, hargs, rfl, rfl, h0, r0⟩ := trodAll_cons hA
  obtain ⟨rfl, rfl, rfl⟩ := trodAll_nil r0
  obtain rfl : args = #[v0] := by cases args; simp_all
  obtain ⟨rfl, rfl⟩ := trodVars_none hV
  obtain ⟨a0, rfl, rfl, rfl, y0⟩ := open_string Try.underlying9 (hval 0 9 v0 rfl rfl) h0
  have w0 : a0.size ≤ 140737488351232 := by
    have z := sized_string hsz (j := 0) (t := 9) rfl rfl
    rw [Array.length_toList] at z
    exact z
  clear hA0 hval0 hsz0 hsz
  refine (J.ringworklaw25_JournalReads.walk Pure.JournalReads a0 W w0).mono fun e W' ⟨he, bel⟩ => ?_
  subst he
  exact ⟨_, rfl, _, _, _, [], _, [], hW', trodAll_mk1 (shut_bool Try.underlying4 _), (trodAll_cons_mk (shut_string Try.underlying9 y0) trodAll_mk0), rfl, bel.frame _, fun h => by cases h⟩
theorem over : Rows.journalReadsRow.holds Try.pinned (OpenSpec.ofChange Rows.journalReadsSpec) :=
  OpenClaim.holds_of_wide 6 Try.f6 rfl rfl rfl rfl rfl rfl rfl ⟨rfl, rfl, rfl, rfl, rfl⟩ rfl rfl rfl rfl rfl (by kernel_rfl) Try.func6 (by kernel_rfl)
    (of_decide_eq_true (by kernel_rfl)) (by unfold Func.isWrapper; first | (rw [if_pos (by decide +kernel)]; kernel_rfl) | (rw [if_neg (by decide +kernel)]; exact ⟨rfl, rfl⟩))
    (fun os started H enc _ => lifted os started H enc)
theorem proved : Rows.JournalReadsSaid := over
#print axioms proved
end Go.Proofs.Yteblpjnkinghoaa.journalReads
namespace Go.Proofs.Yteblpjnkinghoaa
/-- The row, under a short name, for the claim. -/
theorem journalReads_holds : Rows.JournalReadsSaid := journalReads.proved
end Go.Proofs.Yteblpjnkinghoaa

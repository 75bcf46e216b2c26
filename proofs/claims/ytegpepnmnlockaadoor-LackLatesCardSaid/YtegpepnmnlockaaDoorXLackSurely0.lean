/- Part 0 of a proof: what the last text rests on. -/
import Derived.Test.YtegpepnmnlockaaDoorProg
import Derived.Below
import Derived.Deep.Draws
import Derived.Deep.AppendLies
import Derived.Maps.AppendAt
import Derived.OwnWalk
import Derived.Laws.BytesArg
import Derived.Laws.MakeOwn
import Derived.Laws.OwnMore
import Derived.Deep.OwnRows
import Derived.Tactics
import Derived.Lib.ConvBytes
import Derived.Laws.Slices
import Derived.WalkKit
import Derived.KernelRfl
import Derived.RowKit3
import Derived.Deep.LoopGhost
import Derived.Deep.QuietTactic
import Derived.BigQuiet
import Derived.WideLaws
import Derived.Deep.DeepCutAuto
import Derived.Deep.CutBlock
import Derived.Deep.RegionHeld3
import Derived.Laws.Rows
import Derived.Lib.AppendStr
import Derived.ArgAppend
import Derived.Laws.IdiomCopy
import Derived.RowKit
import Derived.OrdersHeld
import Derived.Laws.BitsLemmas
import Derived.Laws.StructEq
import Derived.Maps.OwnOps
import Derived.Maps.OwnSet
import Derived.Maps.Views
import Derived.DeepKeys4
import Derived.Carry
import Derived.WalkLawsBesides
import Derived.WalkSpells
import Derived.WalkArith
import Derived.StillTailTactics
import Derived.RegionTactic
import Derived.BigRegion
import Derived.Deep.DrawnRows
import Derived.ChangeKeysEq
import Derived.Deep.RegionLawGrows
import Derived.Laws.CopyRow
import Derived.Laws.EntriesVeiled
import Derived.Laws.ResultCell
import Derived.RangeFuncNested
import Derived.RangeFuncBound
import Derived.RangeFuncCalls
import Derived.RangeFuncLeaves
import Derived.Shelf.Abstract
import Derived.Shelf.RegionOpen
import Derived.OwnWalkIn
import Derived.TacticsInMore
import Derived.LoopNIn
import Derived.LoopIn
import Derived.Shelf.SlSortCmp.Kit1
import Derived.Shelf.SlLaysF
import Derived.Shelf.SlGeneric
import Derived.Ground.SlsfProg
import Derived.Shelf.SlSortCmp.NoneTotal
import Derived.Deep.RegionLaw
import Derived.Lib.SliceRun
import Derived.Lib.LazyBuf
import Derived.Deep.DeepMust
import Derived.ProofKit
import Derived.OpenShut
import Derived.Deep.Slices
import Derived.SizedLaws
import Derived.LaidMore
import Derived.Stop.Joined
import Derived.Laws.IdiomArrays
import Derived.ChangeOld
import Derived.SevenTiedAt
import Derived.Test.YtegpepnmnlockaaDoorRows
set_option linter.unusedVariables false
set_option linter.unusedSimpArgs false
namespace Go.Proofs.YtegpepnmnlockaaDoorW.PrintWords
open Go.RowKit
/-- A fact that the walk's simp doesn't look into. -/
structure Aside0 (p : Prop) : Prop where mk :: (out : p)
/-- The world is the old one, some orders having been drawn. -/
structure Drawn0 (w w' : World) : Prop where mk :: (out : ∃ n, w' = w.drewN n)
theorem Drawn0.refl (w : World) : Drawn0 w w := ⟨⟨0, rfl⟩⟩
theorem Drawn0.step {w w' : World} (h : Drawn0 w w') (n : Nat) : Drawn0 w (w'.drewN n) := by
  obtain ⟨m, rfl⟩ := h
  exact ⟨⟨m + n, World.drewN_drewN ..⟩⟩
theorem Drawn0.grown {w w' : World} (h : Drawn0 w w') : Grown w w' := by
  obtain ⟨n, rfl⟩ := h
  induction n with
  | zero => exact Grown.refl _
  | succ n ih => rw [← World.drew_drewN]; exact Grown.drew ih
theorem Drawn0.below {w w' : World} (h : Drawn0 w w') : Below w.heap.size w w' := by
  obtain ⟨n, rfl⟩ := h
  induction n with
  | zero => exact Below.refl _ _
  | succ n ih => rw [← World.drew_drewN]; exact ih.drew
def rd (xs : List Int) (i : Int) : Int := xs.getD i.toNat 0
def nums (k : IntKind) (xs : List Int) : List Value := xs.map fun x => .int k x
theorem below_alloc {w W : World} (h : Below w.heap.size w W) (o : Obj) : Below w.heap.size w (W.alloc o) := h.alloc h.size o
theorem below_drew {B : Nat} {w W : World} (h : Below B w W) : Below B w W.drew := ⟨h.os, h.tape, h.output, h.size, h.block⟩
theorem pw_below_drewN {B : Nat} {w W : World} (h : Below B w W) (n : Nat) : Below B w (W.drewN n) := ⟨h.os, h.tape, h.output, h.size, h.block⟩
theorem below_then {B : Nat} {w w1 w2 : World} (h : Below B w w1) (hB : B ≤ w1.heap.size) (k : Below w1.heap.size w1 w2) : Below B w w2 :=
  h.trans ⟨k.os, k.tape, k.output, k.size, fun i hi => k.block i (Nat.lt_of_lt_of_le hi hB)⟩
theorem pw_below_grown {B : Nat} {w w1 : World} (h : Below B w w1) (row : Option Nat) (hB : B ≤ w1.heap.size) {w2 : World} (hg : w1.grownBy w2 row) (hr : ∀ k, row = some k → B ≤ k) : Below B w w2 := h.grown hg hB hr
theorem grown_of_below {w w1 : World} (h : Below w.heap.size w w1) (row : Option Nat) : w.grownBy w1 row := ⟨h.os, h.tape, h.output, h.size, fun i hi _ => h.block i hi⟩
theorem pw_cell_below {w w1 : World} (h : Below w.heap.size w w1) {a : Addr} {v : Value} (hc : w.cell? a = some v) : w1.cell? a = some v := (h.cell (World.block_lt_of_cell? w a hc)).trans hc
def ReadsInt (w : World) (k : IntKind) (A : Option Addr) (n : Nat) (xs : List Int) : Prop :=
  xs.length = n ∧ n ≤ 9223372036854775807 ∧ (0 < n → ∃ ad, A = some ad ∧ ∀ j, j < n → w.cell? (ad.add j) = some (.int k (xs.getD j 0)))
theorem ReadsInt.at_ {w : World} {k : IntKind} {A : Option Addr} {n : Nat} {xs : List Int} (h : ReadsInt w k A n xs) (i : Int) (h0 : 0 ≤ i) (h1 : i < n) : ∃ ad, A = some ad ∧ w.cell? (ad.add i.toNat) = some (.int k (rd xs i)) := by
  obtain ⟨ad, e, hc⟩ := h.2.2 (by omega)
  exact ⟨ad, e, hc _ (by omega)⟩
theorem ReadsInt.below {w w1 : World} {k : IntKind} {A : Option Addr} {n : Nat} {xs : List Int} (h : ReadsInt w k A n xs) (hb : Below w.heap.size w w1) : ReadsInt w1 k A n xs :=
  ⟨h.1, h.2.1, fun hn => by
    obtain ⟨ad, e, hc⟩ := h.2.2 hn
    exact ⟨ad, e, fun j hj => pw_cell_below hb (hc j hj)⟩⟩
theorem own_nil (W : World) (base : Nat) (e : TypeId) (size : Nat) : W.ownsRow base e size (.slice none 0 0) 0 [] := ⟨by simp, .inl ⟨rfl, rfl⟩⟩
theorem own_base {w : World} {base : Nat} {e : TypeId} {size n : Nat} {v : Value} {xs : List Value} (h : w.ownsRow base e size v n xs) (k : Nat) (hk : v.ownBlock = some k) : base ≤ k := by
  rcases h.2 with ⟨rfl, _⟩ | ⟨g, cap, cur, rfl, hb, _⟩
  · simp [Value.ownBlock] at hk
  · have : g = k := by simpa [Value.ownBlock] using hk
    omega
theorem own_lt {w : World} {base : Nat} {e : TypeId} {size n : Nat} {v : Value} {xs : List Value} (h : w.ownsRow base e size v n xs) (k : Nat) (hk : v.ownBlock = some k) : k < w.heap.size := by
  rcases h.2 with ⟨rfl, _⟩ | ⟨g, cap, cur, rfl, hb, hh, _⟩
  · simp [Value.ownBlock] at hk
  · have : g = k := by simpa [Value.ownBlock] using hk
    subst this
    exact (Array.getElem?_eq_some_iff.1 hh).1
theorem pw_own_below {w w1 : World} {base : Nat} {e : TypeId} {size n : Nat} {v : Value} {xs : List Value} (h : w.ownsRow base e size v n xs) (hb : Below w.heap.size w w1) : w1.ownsRow base e size v n xs :=
  h.kept (grown_of_below hb none) (by cases v.ownBlock <;> simp)
/-- What is written is another row: this one lives on. -/
theorem own_other {w w1 : World} {base : Nat} {e : TypeId} {size n : Nat} {v : Value} {xs : List Value} (h : w.ownsRow base e size v n xs) {row : Option Nat} (hg : w.grownBy w1 row) (hne : v.ownBlock = none ∨ v.ownBlock ≠ row) : w1.ownsRow base e size v n xs := h.kept hg hne
theorem own_reads {w : World} {base n : Nat} {e : TypeId} {k : IntKind} {v : Value} {xs : List Int} (h : w.ownsRow base e 1 v n (nums k xs)) : ∃ A c, v = .slice A n c ∧ ReadsInt w k A n xs := by
  have hl : xs.length = n := by have := h.1; simp [nums] at this; exact this
  rcases Nat.eq_zero_or_pos n with h0 | h0
  · rcases h.2 with ⟨rfl, rfl⟩ | ⟨g, cap, cur, rfl, _⟩
    · exact ⟨none, 0, rfl, hl, by omega, fun hp => absurd hp (by omega)⟩
    · exact ⟨_, cap, rfl, hl, by omega, fun hp => absurd hp (by omega)⟩
  · obtain ⟨g, cap, rfl, _, _⟩ := h.form h0
    have hm : n ≤ 9223372036854775807 := by
      rcases h.2 with ⟨_, h1⟩ | ⟨g', cap', cur, he, _, _, h1, h2, _⟩
      · omega
      · simp only [maxLen] at h2
        omega
    refine ⟨_, cap, rfl, hl, hm, fun _ => ⟨_, rfl, fun j hj => h.cells (g := g) rfl j _ ?_⟩⟩
    simp [nums, List.getElem?_eq_getElem (show j < xs.length by omega), List.getD_eq_getElem?_getD]
section
variable {P : Program} {ops : Array Oper} {rest : List Oper} {o : Oper} {a : Act} {Q : Exit → Act → World → Prop}
end
section
variable {P : Program}
/-- Laid ahead of go_enter, the Int a cast: 'obtain ⟨m, rfl⟩ := Int.eq_ofNat_of_zero_le h0' first; the walk takes it as_ a rule. -/
theorem print_make (t e : TypeId) (k : IntKind) (bytes : Nat) (ht : P.underlying t = some (.slice e)) (hinfo : (P.info? e).map (fun i => (i.zero, i.size, i.bytes)) = some (some (.int k 0), 1, bytes)) (hb0 : 0 < bytes)
    (m : Nat) (hn : m * bytes ≤ 281474976710656) :
    ∀ W : World, (Instr.makeSlice t (.int .i64 (m : Int)) (.int .i64 (m : Int))).run P W = .ok (.slice (some ⟨W.heap.size, 0, none⟩) m m) (W.alloc (.cells (madeCells #[.int k 0] m) e)) := by
  intro W
  have hm : m ≤ 281474976710656 := Nat.le_trans (Nat.le_mul_of_pos_right _ hb0) hn
  exact run_make_row' t e (.int k 0) bytes ht hinfo rfl .i64 .i64 m (by rw [Nat.mul_comm]; exact hn) (by omega) W
end
theorem own_lit (W : World) (base : Nat) (e : TypeId) (k : IntKind) (xs : List Int) (hb : base ≤ W.heap.size) (hm : xs.length ≤ 9223372036854775807) :
    (W.alloc (.cells (nums k xs).toArray e)).ownsRow base e 1 (.slice (some ⟨W.heap.size, 0, none⟩) xs.length xs.length) xs.length (nums k xs) := by
  have h := World.ownsRow_lit (base := base) (e := e) (size := 1) W (nums k xs).toArray xs.length hb (by simpa [maxLen] using hm) (by simp [nums])
  simpa using h
section
variable {P : Program} {ops : Array Oper} {rest : List Oper} {o : Oper} {a : Act} {Q : Exit → Act → World → Prop}
end
def bytesOf (s : ByteArray) : List Int := s.data.toList.map fun b => (b.toNat : Int)
/-- 'xs[:k]' and 'xs[k:]' of a slice that is read; the address of the second as_ the walk has it. -/
theorem ReadsInt.take_ {w : World} {k : IntKind} {A : Option Addr} {n : Nat} {xs : List Int} (h : ReadsInt w k A n xs) (i : Nat) (hi : i ≤ n) : ReadsInt w k A i (xs.take i) := by
  refine ⟨by rw [List.length_take, h.1]; omega, by have := h.2.1; omega, fun hp => ?_⟩
  obtain ⟨ad, e, hc⟩ := h.2.2 (by omega)
  refine ⟨ad, e, fun j hj => ?_⟩
  rw [hc j (by omega)]
  simp [List.getD_eq_getElem?_getD, hj]
/-- Where the first answers, the second answers the same. -/
def LeO {α : Type} (a b : Option α) : Prop := ∀ r, a = some r → b = some r
theorem LeO.refl {α : Type} (a : Option α) : LeO a a := fun _ h => h
theorem LeO.none {α : Type} (b : Option α) : LeO Option.none b := fun _ h => by cases h
theorem LeO.trans {α : Type} {a b c : Option α} (h : LeO a b) (k : LeO b c) : LeO a c := fun r hr => k r (h r hr)
theorem LeO.ite {α : Type} {c : Prop} [Decidable c] {a a' b b' : Option α} (h : LeO a a') (k : LeO b b') : LeO (if c then a else b) (if c then a' else b') := by
  split
  · exact h
  · exact k
theorem LeO.bind {α β : Type} {a a' : Option α} {f f' : α → Option β} (h : LeO a a') (k : ∀ x, LeO (f x) (f' x)) : LeO (a.bind f) (a'.bind f') := by
  intro r hr
  obtain ⟨x, hx, hf⟩ := Option.bind_eq_some_iff.1 hr
  exact Option.bind_eq_some_iff.2 ⟨x, h x hx, k x r hf⟩
theorem LeO.map {α β : Type} {a a' : Option α} (f : α → β) (h : LeO a a') : LeO (a.map f) (a'.map f) := by
  intro r hr
  obtain ⟨x, hx, hf⟩ := Option.map_eq_some_iff.1 hr
  exact Option.map_eq_some_iff.2 ⟨x, h x hx, hf⟩
theorem more_rounds {α : Type} {g : Nat → Option α} (h : ∀ k, LeO (g k) (g (k + 1))) (k : Nat) : ∀ j, LeO (g k) (g (k + j))
  | 0 => LeO.refl _
  | j + 1 => (more_rounds h k j).trans (h (k + j))
theorem at_rounds {α : Type} {g : Nat → Option α} (h : ∀ k, LeO (g k) (g (k + 1))) {k k' : Nat} (hk : k ≤ k') {r : α} (hr : g k = some r) : g k' = some r := by
  have := more_rounds h k (k' - k) r hr
  rwa [Nat.add_sub_cancel' hk] at this
def Reps {α : Type} (R : α → List Value → Prop) (size : Nat) (ps : List α) (cs : List Value) : Prop :=
  cs.length = ps.length * size ∧ ∀ j p, ps[j]? = some p → R p ((cs.drop (j * size)).take size)
theorem Reps.none {α : Type} (R : α → List Value → Prop) (size : Nat) : Reps R size [] [] := ⟨by simp, fun j p h => by simp at h⟩
theorem Reps.snoc {α : Type} {R : α → List Value → Prop} {size : Nat} {ps : List α} {cs c : List Value} {p : α} (h : Reps R size ps cs) (hp : R p c) (hc : c.length = size) : Reps R size (ps ++ [p]) (cs ++ c) := by
  refine ⟨by rw [List.length_append, h.1, hc, List.length_append, List.length_singleton, Nat.add_mul, Nat.one_mul], fun j q hq => ?_⟩
  rcases Nat.lt_or_ge j ps.length with hj | hj
  · rw [List.getElem?_append_left hj] at hq
    have h1 : j * size + size ≤ cs.length := by rw [h.1, ← Nat.succ_mul]; exact Nat.mul_le_mul_right _ hj
    have h2 := h.2 j q hq
    rw [List.drop_append_of_le_length (by omega), List.take_append_of_le_length (by rw [List.length_drop]; omega)]
    exact h2
  · have hj' : j = ps.length := by
      have := (List.getElem?_eq_some_iff.1 hq).1
      rw [List.length_append, List.length_singleton] at this
      omega
    subst hj'
    have hq' : p = q := by simpa using hq
    subst hq'
    rw [← h.1, List.drop_left, ← hc, List.take_length]
    exact hp
theorem Reps.imp_ {α : Type} {R R' : α → List Value → Prop} {size : Nat} {ps : List α} {cs : List Value} (h : Reps R size ps cs) (hR : ∀ p c, R p c → R' p c) : Reps R' size ps cs := ⟨h.1, fun j p hj => hR _ _ (h.2 j p hj)⟩
def ReadsRow {α : Type} (R : α → List Value → Prop) (size : Nat) (w : World) (A : Option Addr) (n : Nat) (ps : List α) : Prop :=
  ps.length = n ∧ n ≤ 9223372036854775807 ∧ (0 < n → ∃ ad, A = some ad ∧ ∀ j p, ps[j]? = some p → ∃ c, c.length = size ∧ R p c ∧ ∀ i u, c[i]? = some u → w.cell? (ad.add (j * size + i)) = some u)
theorem ReadsRow.get_ {α : Type} {R : α → List Value → Prop} {size : Nat} {w : World} {A : Option Addr} {n : Nat} {ps : List α} (h : ReadsRow R size w A n ps) (d : α) (i : Int) (h0 : 0 ≤ i) (h1 : i < n) :
    ∃ ad c, A = some ad ∧ c.length = size ∧ R (ps.getD i.toNat d) c ∧ ∀ j u, c[j]? = some u → w.cell? (ad.add (i.toNat * size + j)) = some u := by
  obtain ⟨ad, e, hc⟩ := h.2.2 (by omega)
  have hl : i.toNat < ps.length := by have := h.1; omega
  obtain ⟨c, hs, hr, hcell⟩ := hc i.toNat _ (List.getElem?_eq_getElem hl)
  refine ⟨ad, c, e, hs, ?_, hcell⟩
  rw [List.getD_eq_getElem?_getD, List.getElem?_eq_getElem hl]
  exact hr
theorem ReadsRow.imp_ {α : Type} {R R' : α → List Value → Prop} {size : Nat} {w w1 : World} {A : Option Addr} {n : Nat} {ps : List α} (h : ReadsRow R size w A n ps) (hb : Below w.heap.size w w1) (hR : ∀ p c, R p c → R' p c) : ReadsRow R' size w1 A n ps :=
  ⟨h.1, h.2.1, fun hn => by
    obtain ⟨ad, e, hc⟩ := h.2.2 hn
    refine ⟨ad, e, fun j p hj => ?_⟩
    obtain ⟨c, hs, hr, hcell⟩ := hc j p hj
    exact ⟨c, hs, hR _ _ hr, fun i u hu => pw_cell_below hb (hcell i u hu)⟩⟩
theorem own_reads_row {α : Type} {R : α → List Value → Prop} {w : World} {base n size : Nat} {e : TypeId} {v : Value} {ps : List α} {cs : List Value} (h : w.ownsRow base e size v n cs) (hR : Reps R size ps cs) (hn : ps.length = n) :
    ∃ A c, v = .slice A n c ∧ ReadsRow R size w A n ps := by
  rcases Nat.eq_zero_or_pos n with h0 | h0
  · rcases h.2 with ⟨rfl, rfl⟩ | ⟨g, cap, cur, rfl, _⟩
    · exact ⟨none, 0, rfl, hn, by omega, fun hp => absurd hp (by omega)⟩
    · exact ⟨_, cap, rfl, hn, by omega, fun hp => absurd hp (by omega)⟩
  · obtain ⟨g, cap, rfl, _, _⟩ := h.form h0
    have hm : n ≤ 9223372036854775807 := by
      rcases h.2 with ⟨_, h1⟩ | ⟨g', cap', cur, he, _, _, h1, h2, _⟩
      · omega
      · simp only [maxLen] at h2
        omega
    refine ⟨_, cap, rfl, hn, hm, fun _ => ⟨_, rfl, fun j p hj => ⟨(cs.drop (j * size)).take size, ?_, hR.2 j p hj, fun i u hu => ?_⟩⟩⟩
    · have hjl := (List.getElem?_eq_some_iff.1 hj).1
      have h1 : j * size + size ≤ cs.length := by rw [hR.1, ← Nat.succ_mul]; exact Nat.mul_le_mul_right _ hjl
      rw [List.length_take, List.length_drop]
      omega
    · refine h.cells (g := g) rfl _ u ?_
      rw [List.getElem?_take] at hu
      split at hu
      · rw [List.getElem?_drop] at hu
        exact hu
      · cases hu
/-- A field's address as_ the walk spells it. -/
theorem add_field (ad : Addr) (m j : Nat) (hj : 0 < j) : ad.add (m + j) = ⟨(ad.add m).block, (ad.add m).off + j, none⟩ := by
  unfold Addr.add
  by_cases hm : m = 0
  · subst hm
    simp [Nat.ne_of_gt hj]
  · simp [hm, Nat.add_assoc]
section
variable {P : Program} {ops : Array Oper} {rest : List Oper} {o : Oper} {a : Act} {Q : Exit → Act → World → Prop}
/-- append(v, x), x of several cells; behind 'at_builtin'; the goal's world is 'W.alloc' of the variadic's box. -/
theorem print_append_cells {w0 W : World} (base : Nat) (hgd : o.guard = none) (s x : Operand) (t e : TypeId) (z : Value) (size bytes : Nat)
    (ho : o.op = .call { callee := .builtin .append, args := #[s, x], argTypes := #[t, t] })
    (ht : P.underlying t = some (.slice e)) (hinfo : (P.info? e).map (fun i => (i.zero, i.size, i.bytes)) = some (some z, size, bytes)) (hz : z.cells.size = size) (hs0 : 0 < size) (hb0 : 0 < bytes)
    (v : Value) (n : Nat) (xs ys : List Value) (hs : a.eval s = v) (hx : a.eval x = .slice (some ⟨W.heap.size, 0, none⟩) 1 1) (hys : ys.length = size) (h1 : ∀ u ∈ ys, u.oneCell' = true)
    (HO : W.ownsRow base e size v n xs) (HB : Below base w0 W) (hbase : base ≤ W.heap.size) (hl : (n + 1) * bytes ≤ 140737488355328)
    (h : ∀ v1 w1, w1.ownsRow base e size v1 (n + 1) (xs ++ ys) → Below base w0 w1 → W.grownBy w1 v.ownBlock → (v1.ownBlock = v.ownBlock ∨ ∃ b, v1.ownBlock = some b ∧ W.heap.size ≤ b) → wpList P ops Q rest (a.put o.dst v1) w1) :
    wpList P ops Q (o :: rest) a (W.alloc (.cells ys.toArray e)) := by
  obtain ⟨i0, hi, hzz⟩ := Option.map_eq_some_iff.1 hinfo
  simp only [Prod.mk.injEq] at hzz
  obtain ⟨hz0, hz1, hz2⟩ := hzz
  have hlen : n + 1 ≤ 140737488355328 := Nat.le_trans (Nat.le_mul_of_pos_right _ hb0) hl
  refine wpList_append_own_at (W.alloc (.cells ys.toArray e)) hgd s x t ho base e i0 z size bytes ht hi hz0 hz1 hz2 hz hs0 v n xs hs (HO.alloc _) ⟨W.heap.size, 0, none⟩ 1 1 ys hx (by rw [hys]; simp)
    (by simpa using World.news_of_block (cs := ys.toArray) (t := e) (fr := (0, 0)) (heap_alloc_new W (.cells ys.toArray e))) h1 (by simp only [maxLen]; omega) hl (by simp; omega) ?_
  intro v1 w1 hown hg _ hat
  refine h v1 w1 hown ((HB.alloc hbase _).grown hg (by simp; omega) (own_base HO)) (World.grownBy.trans (World.grownBy_alloc W _ _) hg) ?_
  rcases hat with hat | hat
  · exact .inl hat
  · exact .inr ⟨_, hat, by simp⟩
end
theorem own_ne {w : World} {base : Nat} {e t : TypeId} {size n g : Nat} {v : Value} {xs : List Value} {cs : Array Value} (h : w.ownsRow base e size v n xs) (hg : w.heap[g]? = some (.cells cs t (0, 0))) (hne : e ≠ t) : some g ≠ v.ownBlock := by
  rcases h.2 with ⟨rfl, _⟩ | ⟨g', cap, cur, rfl, _, hh, _⟩
  · simp [Value.ownBlock]
  · intro he
    have : g = g' := by simpa [Value.ownBlock] using he
    subst this
    rw [hg] at hh
    injection hh with hh
    injection hh with _ ht
    exact hne ht.symm
theorem blk_set {w : World} {g : Nat} {t : TypeId} {cs : Array Value} (h : w.heap[g]? = some (.cells cs t (0, 0))) (i : Nat) (u : Value) : (w.setCell ⟨g, i, none⟩ u).heap[g]? = some (.cells (cs.setIfInBounds i u) t (0, 0)) := by
  simp [World.setCell, Array.getElem?_modify, h]
theorem blk_far {w : World} {g : Nat} {t : TypeId} {cs : Array Value} (h : w.heap[g]? = some (.cells cs t (0, 0))) {p : Addr} (hp : g ≠ p.block) (u : Value) : (w.setCell p u).heap[g]? = some (.cells cs t (0, 0)) := (Below.heap_setCell w p u g hp).trans h
theorem blk_lt {w : World} {g : Nat} {o : Obj} (h : w.heap[g]? = some o) : g < w.heap.size := (Array.getElem?_eq_some_iff.1 h).1
theorem blk_cell {w : World} {g : Nat} {t : TypeId} {cs : Array Value} (h : w.heap[g]? = some (.cells cs t (0, 0))) (i : Nat) : w.cell? ⟨g, i, none⟩ = cs[i]? := cell_of_row w g i cs t (0, 0) h
theorem blk_frozen {w : World} {g : Nat} {t : TypeId} {cs : Array Value} (h : w.heap[g]? = some (.cells cs t (0, 0))) (i : Nat) : w.frozen? ⟨g, i, none⟩ = false := by simp [World.frozen?, h]
theorem blk_grown {w w1 : World} {g : Nat} {o : Obj} {row : Option Nat} (h : w.heap[g]? = some o) (hg : w.grownBy w1 row) (hne : some g ≠ row) : w1.heap[g]? = some o := (hg.block g (blk_lt h) hne).trans h
theorem blk_ne {w : World} {g g' : Nat} {t t' : TypeId} {cs cs' : Array Value} (h : w.heap[g]? = some (.cells cs t (0, 0))) (h' : w.heap[g']? = some (.cells cs' t' (0, 0))) (hne : t ≠ t') : g ≠ g' := by
  rintro rfl
  rw [h] at h'
  injection h' with h'
  injection h' with _ ht
  exact hne ht
def KeepBut (w w' : World) (g : Nat) (row : Option Nat) : Prop := w.heap.size ≤ w'.heap.size ∧ ∀ i, i < w.heap.size → i ≠ g → some i ≠ row → w'.heap[i]? = w.heap[i]?
theorem KeepBut.refl (w : World) (g : Nat) (row : Option Nat) : KeepBut w w g row := ⟨Nat.le_refl _, fun _ _ _ _ => rfl⟩
theorem KeepBut.of_below {w w1 : World} (h : Below w.heap.size w w1) (g : Nat) (row : Option Nat) : KeepBut w w1 g row := ⟨h.size, fun i hi _ _ => h.block i hi⟩
theorem KeepBut.trans {w w1 w2 : World} {g : Nat} {row row1 : Option Nat} (h : KeepBut w w1 g row) (k : KeepBut w1 w2 g row1) (hr : row1 = row ∨ ∃ b, row1 = some b ∧ w.heap.size ≤ b) : KeepBut w w2 g row :=
  ⟨Nat.le_trans h.1 k.1, fun i hi hg hn => by
    refine (k.2 i (Nat.lt_of_lt_of_le hi h.1) hg ?_).trans (h.2 i hi hg hn)
    rcases hr with rfl | ⟨b, rfl, hb⟩
    · exact hn
    · intro e
      injection e with e
      omega⟩
/-- Another block, another row: they live on. -/
theorem KeepBut.blk {w w1 : World} {g g' : Nat} {row : Option Nat} {o : Obj} (h : KeepBut w w1 g row) (hb : w.heap[g']? = some o) (hg : g' ≠ g) (hr : some g' ≠ row) : w1.heap[g']? = some o := (h.2 g' (blk_lt hb) hg hr).trans hb
theorem KeepBut.own {w w1 : World} {g : Nat} {row : Option Nat} {base : Nat} {e : TypeId} {size n : Nat} {v : Value} {xs : List Value} (h : KeepBut w w1 g row) (ho : w.ownsRow base e size v n xs) (hg : v.ownBlock ≠ some g) (hr : v.ownBlock = none ∨ v.ownBlock ≠ row) : w1.ownsRow base e size v n xs := by
  obtain ⟨h1, h2⟩ := ho
  refine ⟨h1, ?_⟩
  rcases h2 with h2 | ⟨b, cap, cur, rfl, hb, hh, r⟩
  · exact .inl h2
  · refine .inr ⟨b, cap, cur, rfl, hb, h.blk hh ?_ ?_, r⟩
    · intro e
      exact hg (by rw [← e]; rfl)
    · rcases hr with hr | hr
      · simp [Value.ownBlock] at hr
      · exact hr
def Ev {α : Type} (g : Nat → Option α) (r : α) : Prop := ∃ K, ∀ k, K ≤ k → g k = some r
theorem Ev.of {α : Type} {g : Nat → Option α} {r : α} (hg : ∀ k, LeO (g k) (g (k + 1))) {k : Nat} (h : g k = some r) : Ev g r := ⟨k, fun _ hk => at_rounds hg hk h⟩
theorem Ev.now {α : Type} (r : α) : Ev (fun _ => some r) r := ⟨0, fun _ _ => rfl⟩
theorem Ev.bind {α β : Type} {g : Nat → Option α} {f : Nat → α → Option β} {a : α} {r : β} (h : Ev g a) (k : Ev (fun n => f n a) r) : Ev (fun n => (g n).bind (f n)) r := by
  obtain ⟨K, h⟩ := h
  obtain ⟨K', k⟩ := k
  refine ⟨max K K', fun n hn => ?_⟩
  have h1 := h n (by omega)
  have h2 := k n (by omega)
  simp only [h1, Option.bind_some]
  exact h2
/-- One round of a loop. -/
theorem Ev.step {α : Type} {g f : Nat → Option α} {r : α} (h : ∀ k, g (k + 1) = f k) (k : Ev f r) : Ev g r := by
  obtain ⟨K, k⟩ := k
  refine ⟨K + 1, fun n hn => ?_⟩
  obtain ⟨m, rfl⟩ : ∃ m, n = m + 1 := ⟨n - 1, by omega⟩
  rw [h]
  exact k m (by omega)
theorem Ev.congr {α : Type} {g f : Nat → Option α} {r : α} (h : ∀ k, g k = f k) (k : Ev f r) : Ev g r := by
  obtain ⟨K, k⟩ := k
  exact ⟨K, fun n hn => (h n).trans (k n hn)⟩
section
variable {P : Program} {ops : Array Oper} {o : Oper} {a : Act} {Q : Exit → Act → World → Prop} {K : Act → World → Prop}
theorem step_append_cells {w0 W : World} (base : Nat) (hw : Region.wanted o (yielded ops a.tmps) = true) (s x : Operand) (t e : TypeId) (z : Value) (size bytes : Nat)
    (ho : o.op = .call { callee := .builtin .append, args := #[s, x], argTypes := #[t, t] })
    (ht : P.underlying t = some (.slice e)) (hinfo : (P.info? e).map (fun i => (i.zero, i.size, i.bytes)) = some (some z, size, bytes)) (hz : z.cells.size = size) (hs0 : 0 < size) (hb0 : 0 < bytes)
    (v : Value) (n : Nat) (xs ys : List Value) (hs : a.eval s = v) (hx : a.eval x = .slice (some ⟨W.heap.size, 0, none⟩) 1 1) (hys : ys.length = size) (h1 : ∀ u ∈ ys, u.oneCell' = true)
    (HO : W.ownsRow base e size v n xs) (HB : Below base w0 W) (hbase : base ≤ W.heap.size) (hl : (n + 1) * bytes ≤ 140737488355328)
    (h : ∀ v1 w1, w1.ownsRow base e size v1 (n + 1) (xs ++ ys) → Below base w0 w1 → W.grownBy w1 v.ownBlock → (v1.ownBlock = v.ownBlock ∨ ∃ b, v1.ownBlock = some b ∧ W.heap.size ≤ b) → K (a.put o.dst v1) w1) :
    if Region.wanted o (yielded ops a.tmps) = true then Oper.wp P o a (W.alloc (.cells ys.toArray e)) K Q else K (a.put o.dst undef) (W.alloc (.cells ys.toArray e)) := by
  obtain ⟨i0, hi, hzz⟩ := Option.map_eq_some_iff.1 hinfo
  simp only [Prod.mk.injEq] at hzz
  obtain ⟨hz0, hz1, hz2⟩ := hzz
  have hlen : n + 1 ≤ 140737488355328 := Nat.le_trans (Nat.le_mul_of_pos_right _ hb0) hl
  rw [if_pos hw]
  obtain ⟨v1, w1, hr, hown, hg, _, hat⟩ := run_append_own_at (P := P) (W.alloc (.cells ys.toArray e)) base t o.type e i0 z size bytes ht hi hz0 hz1 hz2 hz hs0 v n xs (HO.alloc _) ⟨W.heap.size, 0, none⟩ 1 1 ys (by rw [hys]; simp)
    (by simpa using World.news_of_block (cs := ys.toArray) (t := e) (fr := (0, 0)) (heap_alloc_new W (.cells ys.toArray e))) h1 (by simp only [maxLen]; omega) hl (by simp; omega)
  unfold Oper.wp execOp
  simp only [ho, resolve, invoke, builtin, Sem.run_bind, Sem.run_pure, Result.andThen_ok, List.map_toArray, List.map_cons, List.map_nil, hs, hx, hr]
  refine h v1 w1 hown ((HB.alloc hbase _).grown hg (by simp; omega) (own_base HO)) (World.grownBy.trans (World.grownBy_alloc W _ _) hg) ?_
  rcases hat with hat | hat
  · exact .inl hat
  · exact .inr ⟨_, hat, by simp⟩
end
theorem own_weaken {w : World} {base base' : Nat} {e : TypeId} {size n : Nat} {v : Value} {xs : List Value} (h : w.ownsRow base e size v n xs) (hb : base' ≤ base) : w.ownsRow base' e size v n xs := by
  obtain ⟨h1, h2⟩ := h
  refine ⟨h1, ?_⟩
  rcases h2 with h2 | ⟨g, cap, cur, rfl, hg, r⟩
  · exact .inl h2
  · exact .inr ⟨g, cap, cur, rfl, Nat.le_trans hb hg, r⟩
section
variable {α : Type} {enc : α → Value} {d : α}
def rdOf (d : α) (xs : List α) (i : Int) : α := xs.getD i.toNat d
def ReadsOf (enc : α → Value) (d : α) (w : World) (A : Option Addr) (n : Nat) (xs : List α) : Prop :=
  xs.length = n ∧ n ≤ 9223372036854775807 ∧ (0 < n → ∃ ad, A = some ad ∧ ∀ j, j < n → w.cell? (ad.add j) = some (enc (xs.getD j d)))
theorem ReadsOf.at_ {w : World} {A : Option Addr} {n : Nat} {xs : List α} (h : ReadsOf enc d w A n xs) (i : Int) (h0 : 0 ≤ i) (h1 : i < n) : ∃ ad, A = some ad ∧ w.cell? (ad.add i.toNat) = some (enc (rdOf d xs i)) := by
  obtain ⟨ad, e, hc⟩ := h.2.2 (by omega)
  exact ⟨ad, e, hc _ (by omega)⟩
theorem ReadsOf.below {w w1 : World} {A : Option Addr} {n : Nat} {xs : List α} (h : ReadsOf enc d w A n xs) (hb : Below w.heap.size w w1) : ReadsOf enc d w1 A n xs :=
  ⟨h.1, h.2.1, fun hn => by
    obtain ⟨ad, e, hc⟩ := h.2.2 hn
    exact ⟨ad, e, fun j hj => pw_cell_below hb (hc j hj)⟩⟩
theorem ReadsOf.take_ {w : World} {A : Option Addr} {n : Nat} {xs : List α} (h : ReadsOf enc d w A n xs) (i : Nat) (hi : i ≤ n) : ReadsOf enc d w A i (xs.take i) := by
  refine ⟨by rw [List.length_take, h.1]; omega, by have := h.2.1; omega, fun hp => ?_⟩
  obtain ⟨ad, e, hc⟩ := h.2.2 (by omega)
  refine ⟨ad, e, fun j hj => ?_⟩
  rw [hc j (by omega)]
  simp [List.getD_eq_getElem?_getD, hj]
end
section
variable {α : Type} {P : Program} {ops : Array Oper} {rest : List Oper} {o : Oper} {a : Act} {Q : Exit → Act → World → Prop}
end
theorem blk_alloc {w : World} {g : Nat} {o : Obj} (h : w.heap[g]? = some o) (o' : Obj) : (w.alloc o').heap[g]? = some o := (Below.heap_alloc w o' g (blk_lt h)).trans h
theorem blk_drew {w : World} {g : Nat} {o : Obj} (h : w.heap[g]? = some o) : w.drew.heap[g]? = some o := h
theorem blk_drewN {w : World} {g : Nat} {o : Obj} (h : w.heap[g]? = some o) (n : Nat) : (w.drewN n).heap[g]? = some o := h
theorem blk_below {w w1 : World} {g : Nat} {o : Obj} (h : w.heap[g]? = some o) (hb : Below w.heap.size w w1) : w1.heap[g]? = some o := (hb.block g (blk_lt h)).trans h
theorem blk_new (w : World) (o : Obj) : (w.alloc o).heap[w.heap.size]? = some o := heap_alloc_new w o
section
variable {P : Program}
end
theorem own_le {w : World} {base n m c size : Nat} {e : TypeId} {A : Option Addr} {xs : List Value} (h : w.ownsRow base e size (.slice A m c) n xs) : m ≤ c := by
  rcases h.2 with ⟨he, _⟩ | ⟨g, cap, cur, he, _, _, hnc, _⟩
  · injection he with _ h2 h3
    omega
  · injection he with _ h2 h3
    omega
def OwnRow {α : Type} (R : α → List Value → Prop) (e : TypeId) (size : Nat) (w : World) (base : Nat) (v : Value) (ps : List α) : Prop :=
  ∃ inner, w.ownsRow base e size v ps.length inner ∧ Reps R size ps inner
section
variable {α : Type} {R R' : α → List Value → Prop} {e : TypeId} {size : Nat} {w w1 : World} {base : Nat} {v : Value} {ps : List α}
theorem OwnRow.none_ (R : α → List Value → Prop) (e : TypeId) (size : Nat) (w : World) (base : Nat) : OwnRow R e size w base (.slice none 0 0) [] := ⟨[], own_nil _ _ _ _, Reps.none _ _⟩
theorem OwnRow.imp_ (h : OwnRow R e size w base v ps) (hR : ∀ p c, R p c → R' p c) : OwnRow R' e size w base v ps := by
  obtain ⟨inner, ho, hr⟩ := h
  exact ⟨inner, ho, hr.imp_ hR⟩
theorem OwnRow.below (h : OwnRow R e size w base v ps) (hb : Below w.heap.size w w1) : OwnRow R e size w1 base v ps := by
  obtain ⟨inner, ho, hr⟩ := h
  exact ⟨inner, pw_own_below ho hb, hr⟩
theorem OwnRow.other (h : OwnRow R e size w base v ps) {row : Option Nat} (hg : w.grownBy w1 row) (hne : v.ownBlock = none ∨ v.ownBlock ≠ row) : OwnRow R e size w1 base v ps := by
  obtain ⟨inner, ho, hr⟩ := h
  exact ⟨inner, own_other ho hg hne, hr⟩
theorem OwnRow.lower (h : OwnRow R e size w base v ps) {base' : Nat} (hb : base' ≤ base) : OwnRow R e size w base' v ps := by
  obtain ⟨inner, ho, hr⟩ := h
  exact ⟨inner, own_weaken ho hb, hr⟩
theorem OwnRow.reads (h : OwnRow R e size w base v ps) : ∃ A c, v = .slice A ps.length c ∧ ps.length ≤ c ∧ ReadsRow R size w A ps.length ps := by
  obtain ⟨inner, ho, hr⟩ := h
  obtain ⟨A, c, rfl, hrow⟩ := own_reads_row ho hr rfl
  exact ⟨A, c, rfl, own_le ho, hrow⟩
theorem OwnRow.ne_block (h : OwnRow R e size w base v ps) {g : Nat} {t : TypeId} {cells : Array Value} (hb : w.heap[g]? = some (.cells cells t (0, 0))) (ht : e ≠ t) : some g ≠ v.ownBlock := by
  obtain ⟨inner, ho, hr⟩ := h
  exact own_ne ho hb ht
/-- A literal: the elements' cells one behind the other. -/
theorem OwnRow.lit (W : World) (base : Nat) {inner : List Value} (hr : Reps R size ps inner) (hb : base ≤ W.heap.size) (hm : ps.length ≤ 9223372036854775807) :
    OwnRow R e size (W.alloc (.cells inner.toArray e)) base (.slice (some ⟨W.heap.size, 0, none⟩) ps.length ps.length) ps := by
  have h := World.ownsRow_lit (base := base) (e := e) (size := size) W inner.toArray ps.length hb (by simpa [maxLen] using hm) (by simpa using hr.1)
  exact ⟨inner, by simpa using h, hr⟩
end
section
variable {P : Program} {ops : Array Oper} {rest : List Oper} {o : Oper} {a : Act} {Q : Exit → Act → World → Prop} {α : Type} {R : α → List Value → Prop}
/-- append(v, x): x's cells are cs. R is that of the world AHEAD; move it over hg ('OwnRow.imp_'). -/
theorem OwnRow.append {w0 W : World} (base : Nat) (hgd : o.guard = none) (s x : Operand) (t e : TypeId) (z : Value) (size bytes : Nat)
    (ho : o.op = .call { callee := .builtin .append, args := #[s, x], argTypes := #[t, t] })
    (ht : P.underlying t = some (.slice e)) (hinfo : (P.info? e).map (fun i => (i.zero, i.size, i.bytes)) = some (some z, size, bytes)) (hz : z.cells.size = size) (hs0 : 0 < size) (hb0 : 0 < bytes)
    (v : Value) (ps : List α) (p : α) (cs : List Value) (hs : a.eval s = v) (hx : a.eval x = .slice (some ⟨W.heap.size, 0, none⟩) 1 1) (hp : R p cs) (hcs : cs.length = size) (h1 : ∀ u ∈ cs, u.oneCell' = true)
    (HO : OwnRow R e size W base v ps) (HB : Below base w0 W) (hbase : base ≤ W.heap.size) (hl : (ps.length + 1) * bytes ≤ 140737488355328)
    (h : ∀ v1 w1, OwnRow R e size w1 base v1 (ps ++ [p]) → Below base w0 w1 → W.grownBy w1 v.ownBlock → (v1.ownBlock = v.ownBlock ∨ ∃ b, v1.ownBlock = some b ∧ W.heap.size ≤ b) → wpList P ops Q rest (a.put o.dst v1) w1) :
    wpList P ops Q (o :: rest) a (W.alloc (.cells cs.toArray e)) := by
  obtain ⟨inner, hown, hr⟩ := HO
  refine print_append_cells base hgd s x t e z size bytes ho ht hinfo hz hs0 hb0 v ps.length inner cs hs hx hcs h1 hown HB hbase hl ?_
  intro v1 w1 hown1 hb1 hg1 hat1
  exact h v1 w1 ⟨inner ++ cs, by rw [List.length_append, List.length_singleton]; exact hown1, hr.snoc hp hcs⟩ hb1 hg1 hat1
end
section
variable {P : Program} {ops : Array Oper} {o : Oper} {a : Act} {Q : Exit → Act → World → Prop} {K : Act → World → Prop} {α : Type} {R : α → List Value → Prop}
end
section
variable {α : Type} {P : Program}
end
section
variable {P : Program} {ops : Array Oper} {rest : List Oper} {o : Oper} {a : Act} {Q : Exit → Act → World → Prop}
end
/-- ok: which blocks the rows inside may be ('not the row that is being written'). -/
structure Kd (α : Type) where
  sz : Nat
  E : List Nat
  K : World → α → List Value → Prop
  M : World → Nat → (Nat → Prop) → α → List Value → Prop
  K_len : ∀ {w x cs}, K w x cs → cs.length = sz
  K_one : ∀ {w x cs}, K w x cs → ∀ u ∈ cs, u.oneCell' = true
  K_below : ∀ {w w1 : World} {x cs}, Below w.heap.size w w1 → K w x cs → K w1 x cs
  K_of_M : ∀ {w base ok x cs}, M w base ok x cs → K w x cs
  M_mono : ∀ {w base ok ok' x cs}, (∀ k, ok k → ok' k) → M w base ok x cs → M w base ok' x cs
  M_bound : ∀ {w : World} {base ok x cs}, M w base ok x cs → M w base (fun k => ok k ∧ base ≤ k ∧ k < w.heap.size ∧ ∃ q, q ∈ E ∧ ∃ cells, w.heap[k]? = some (.cells cells q (0, 0))) x cs
  M_move : ∀ {w w1 : World} {base ok x cs}, (∀ k, ok k → w1.heap[k]? = w.heap[k]?) → M w base ok x cs → M w1 base ok x cs
  M_lower : ∀ {w base base' ok x cs}, base' ≤ base → M w base ok x cs → M w base' ok x cs
theorem own_move {w w1 : World} {base : Nat} {e : TypeId} {size n : Nat} {v : Value} {xs : List Value} (h : w.ownsRow base e size v n xs) (hm : ∀ k, v.ownBlock = some k → w1.heap[k]? = w.heap[k]?) : w1.ownsRow base e size v n xs := by
  obtain ⟨h1, h2⟩ := h
  refine ⟨h1, ?_⟩
  rcases h2 with h2 | ⟨g, cap, cur, rfl, hg, hh, r⟩
  · exact .inl h2
  · exact .inr ⟨g, cap, cur, rfl, hg, (hm g (by simp [Value.ownBlock])).trans hh, r⟩
theorem own_typed {w : World} {base : Nat} {e : TypeId} {size n : Nat} {v : Value} {xs : List Value} (h : w.ownsRow base e size v n xs) (k : Nat) (hk : v.ownBlock = some k) : ∃ cells, w.heap[k]? = some (.cells cells e (0, 0)) := by
  rcases h.2 with ⟨rfl, _⟩ | ⟨g, cap, cur, rfl, hg, hh, r⟩
  · simp [Value.ownBlock] at hk
  · have : g = k := by simpa [Value.ownBlock] using hk
    subst this
    exact ⟨cur, hh⟩
namespace Kd
/-- A row of elements that is read. -/
def C {α : Type} (d : Kd α) (w : World) (A : Option Addr) (n : Nat) (xs : List α) : Prop := ReadsRow (d.K w) d.sz w A n xs
/-- A row of elements (type e) of the call's own; the elements' rows are not this one. -/
def R {α : Type} (d : Kd α) (e : Nat) (w : World) (base : Nat) (ok : Nat → Prop) (v : Value) (xs : List α) : Prop :=
  (∀ k, v.ownBlock = some k → ok k) ∧ OwnRow (d.M w base (fun k => ok k ∧ some k ≠ v.ownBlock)) e d.sz w base v xs
section
variable {α : Type} {d : Kd α} {e : Nat} {w w1 : World} {base : Nat} {ok ok' : Nat → Prop} {v : Value} {xs : List α}
theorem C_below {A : Option Addr} {n : Nat} (h : d.C w A n xs) (hb : Below w.heap.size w w1) : d.C w1 A n xs := ReadsRow.imp_ h hb (fun _ _ hp => d.K_below hb hp)
theorem R_nil (d : Kd α) (e : Nat) (w : World) (base : Nat) (ok : Nat → Prop) : d.R e w base ok (.slice none 0 0) [] := ⟨fun k hk => by simp [Value.ownBlock] at hk, OwnRow.none_ _ _ _ _ _⟩
theorem R_mono (h : d.R e w base ok v xs) (hok : ∀ k, ok k → ok' k) : d.R e w base ok' v xs := ⟨fun k hk => hok k (h.1 k hk), h.2.imp_ (fun _ _ hp => d.M_mono (fun k hk => ⟨hok k hk.1, hk.2⟩) hp)⟩
theorem R_bound (h : d.R e w base ok v xs) : d.R e w base (fun k => ok k ∧ base ≤ k ∧ k < w.heap.size ∧ ∃ q, q ∈ e :: d.E ∧ ∃ cells, w.heap[k]? = some (.cells cells q (0, 0))) v xs := by
  obtain ⟨h0, inner, ho, hr⟩ := h
  refine ⟨fun k hk => ?_, inner, ho, hr.imp_ (fun _ _ hp => d.M_mono (fun k hk => ?_) (d.M_bound hp))⟩
  · obtain ⟨cells, hc⟩ := own_typed ho k hk
    exact ⟨h0 k hk, own_base ho k hk, own_lt ho k hk, e, List.mem_cons_self, cells, hc⟩
  · obtain ⟨⟨h1, h2⟩, h3, h4, q, hq, hc⟩ := hk
    exact ⟨⟨h1, h3, h4, q, List.mem_cons_of_mem _ hq, hc⟩, h2⟩
theorem R_move (h : d.R e w base ok v xs) (hm : ∀ k, ok k → w1.heap[k]? = w.heap[k]?) : d.R e w1 base ok v xs := by
  obtain ⟨h0, inner, ho, hr⟩ := h
  exact ⟨h0, inner, own_move ho (fun k hk => hm k (h0 k hk)), hr.imp_ (fun _ _ hp => d.M_move (fun k hk => hm k hk.1) hp)⟩
theorem R_lower {base' : Nat} (h : d.R e w base ok v xs) (hb : base' ≤ base) : d.R e w base' ok v xs := by
  obtain ⟨h0, inner, ho, hr⟩ := h
  exact ⟨h0, inner, own_weaken ho hb, hr.imp_ (fun _ _ hp => d.M_lower hb hp)⟩
/-- Any mover: what is ok, and a block of w's, stays. -/
theorem R_step (h : d.R e w base ok v xs) (hm : ∀ k, ok k → k < w.heap.size → w1.heap[k]? = w.heap[k]?) : d.R e w1 base ok v xs :=
  R_mono (R_move (R_bound h) (fun k hk => hm k hk.1 hk.2.2.1)) (fun _ hk => hk.1)
theorem M_step {x : α} {cs : List Value} (h : d.M w base ok x cs) (hm : ∀ k, ok k → k < w.heap.size → w1.heap[k]? = w.heap[k]?) : d.M w1 base ok x cs :=
  d.M_mono (fun _ hk => hk.1) (d.M_move (fun k hk => hm k hk.1 hk.2.2.1) (d.M_bound h))
theorem R_below (h : d.R e w base ok v xs) (hb : Below w.heap.size w w1) : d.R e w1 base ok v xs := R_step h (fun k _ hk => hb.block k hk)
theorem M_below {x : α} {cs : List Value} (h : d.M w base ok x cs) (hb : Below w.heap.size w w1) : d.M w1 base ok x cs := M_step h (fun k _ hk => hb.block k hk)
/-- Another row (a block, or none) has been written. -/
theorem R_grown (h : d.R e w base ok v xs) {row : Option Nat} (hg : w.grownBy w1 row) (hok : ∀ k, ok k → some k ≠ row) : d.R e w1 base ok v xs := R_step h (fun k ho hk => hg.block k hk (hok k ho))
/-- A store into another block. -/
theorem R_far (h : d.R e w base ok v xs) {p : Addr} (hok : ∀ k, ok k → k ≠ p.block) (u : Value) : d.R e (w.setCell p u) base ok v xs := R_step h (fun k ho _ => Below.heap_setCell w p u k (hok k ho))
/-- By types alone: the rows inside are none of a block of type t. -/
theorem R_types (h : d.R e w base ok v xs) {g t : Nat} {cells : Array Value} (hb : w.heap[g]? = some (.cells cells t (0, 0))) (ht : ∀ q, q ∈ e :: d.E → q ≠ t) : d.R e w base (fun k => ok k ∧ k ≠ g) v xs :=
  R_mono (R_bound h) (fun k hk => ⟨hk.1, by
    obtain ⟨_, _, _, q, hq, cells', hc⟩ := hk
    rintro rfl
    rw [hc] at hb
    injection hb with hb
    injection hb with _ hb
    exact ht q hq hb⟩)
theorem R_set (h : d.R e w base ok v xs) {g t : Nat} {cells : Array Value} (hb : w.heap[g]? = some (.cells cells t (0, 0))) (ht : ∀ q, q ∈ e :: d.E → q ≠ t) (j : Nat) (u : Value) : d.R e (w.setCell ⟨g, j, none⟩ u) base ok v xs :=
  R_mono (R_far (p := ⟨g, j, none⟩) (R_types h hb ht) (fun _ hk => hk.2) u) (fun _ hk => hk.1)
theorem R_reads (h : d.R e w base ok v xs) : ∃ A c, v = .slice A xs.length c ∧ xs.length ≤ c ∧ d.C w A xs.length xs := by
  obtain ⟨A, c, he, hl, hr⟩ := OwnRow.reads h.2
  exact ⟨A, c, he, hl, hr.imp_ (Below.refl _ _) (fun _ _ hp => d.K_of_M hp)⟩
theorem R_slice (h : d.R e w base ok v xs) : ∃ A c, v = .slice A xs.length c := by
  obtain ⟨A, c, he, _⟩ := R_reads h
  exact ⟨A, c, he⟩
theorem R_ne (h : d.R e w base ok v xs) {g t : Nat} {cells : Array Value} (hb : w.heap[g]? = some (.cells cells t (0, 0))) (ht : e ≠ t) : some g ≠ v.ownBlock := OwnRow.ne_block h.2 hb ht
end
def scalar {α : Type} (enc : α → Value) (h1 : ∀ x, (enc x).oneCell' = true) : Kd α where
  sz := 1
  E := []
  K := fun _ x cs => cs = [enc x]
  M := fun _ _ _ x cs => cs = [enc x]
  K_len := fun h => by rw [h]; rfl
  K_one := fun h u hu => by
    rw [h] at hu
    rw [List.mem_singleton.1 hu]
    exact h1 _
  K_below := fun _ h => h
  K_of_M := fun h => h
  M_mono := fun _ h => h
  M_bound := fun h => h
  M_move := fun _ h => h
  M_lower := fun _ h => h
def int (k : IntKind) : Kd Int := scalar (Value.int k) (fun _ => rfl)
def bool : Kd Bool := scalar Value.bool (fun _ => rfl)
def slice {α : Type} (e : Nat) (d : Kd α) : Kd (List α) where
  sz := 1
  E := e :: d.E
  K := fun w xs cs => ∃ A c, cs = [.slice A xs.length c] ∧ xs.length ≤ c ∧ d.C w A xs.length xs
  M := fun w base ok xs cs => ∃ v, cs = [v] ∧ d.R e w base ok v xs
  K_len := by
    rintro w x cs ⟨A, c, rfl, _⟩
    rfl
  K_one := by
    rintro w x cs ⟨A, c, rfl, _⟩ u hu
    rw [List.mem_singleton.1 hu]
    rfl
  K_below := by
    rintro w w1 x cs hb ⟨A, c, rfl, hl, hr⟩
    exact ⟨A, c, rfl, hl, C_below hr hb⟩
  K_of_M := by
    rintro w base ok x cs ⟨v, rfl, h⟩
    obtain ⟨A, c, rfl, hl, hr⟩ := R_reads h
    exact ⟨A, c, rfl, hl, hr⟩
  M_mono := by
    rintro w base ok ok' x cs hok ⟨v, rfl, h⟩
    exact ⟨v, rfl, R_mono h hok⟩
  M_bound := by
    rintro w base ok x cs ⟨v, rfl, h⟩
    exact ⟨v, rfl, R_bound h⟩
  M_move := by
    rintro w w1 base ok x cs hm ⟨v, rfl, h⟩
    exact ⟨v, rfl, R_move h hm⟩
  M_lower := by
    rintro w base base' ok x cs hb ⟨v, rfl, h⟩
    exact ⟨v, rfl, R_lower h hb⟩
/-- Two in line. -/
def pair {α β : Type} (a : Kd α) (b : Kd β) : Kd (α × β) where
  sz := a.sz + b.sz
  E := a.E ++ b.E
  K := fun w x cs => ∃ c0 c1, cs = c0 ++ c1 ∧ a.K w x.1 c0 ∧ b.K w x.2 c1
  M := fun w base ok x cs => ∃ c0 c1, cs = c0 ++ c1 ∧ a.M w base ok x.1 c0 ∧ b.M w base ok x.2 c1
  K_len := by
    rintro w x cs ⟨c0, c1, rfl, h0, h1⟩
    rw [List.length_append, a.K_len h0, b.K_len h1]
  K_one := by
    rintro w x cs ⟨c0, c1, rfl, h0, h1⟩ u hu
    rcases List.mem_append.1 hu with hu | hu
    · exact a.K_one h0 u hu
    · exact b.K_one h1 u hu
  K_below := by
    rintro w w1 x cs hb ⟨c0, c1, rfl, h0, h1⟩
    exact ⟨c0, c1, rfl, a.K_below hb h0, b.K_below hb h1⟩
  K_of_M := by
    rintro w base ok x cs ⟨c0, c1, rfl, h0, h1⟩
    exact ⟨c0, c1, rfl, a.K_of_M h0, b.K_of_M h1⟩
  M_mono := by
    rintro w base ok ok' x cs hok ⟨c0, c1, rfl, h0, h1⟩
    exact ⟨c0, c1, rfl, a.M_mono hok h0, b.M_mono hok h1⟩
  M_bound := by
    rintro w base ok x cs ⟨c0, c1, rfl, h0, h1⟩
    refine ⟨c0, c1, rfl, a.M_mono ?_ (a.M_bound h0), b.M_mono ?_ (b.M_bound h1)⟩
    · rintro k ⟨h2, h3, h4, q, hq, hc⟩
      exact ⟨h2, h3, h4, q, List.mem_append_left _ hq, hc⟩
    · rintro k ⟨h2, h3, h4, q, hq, hc⟩
      exact ⟨h2, h3, h4, q, List.mem_append_right _ hq, hc⟩
  M_move := by
    rintro w w1 base ok x cs hm ⟨c0, c1, rfl, h0, h1⟩
    exact ⟨c0, c1, rfl, a.M_move hm h0, b.M_move hm h1⟩
  M_lower := by
    rintro w base base' ok x cs hb ⟨c0, c1, rfl, h0, h1⟩
    exact ⟨c0, c1, rfl, a.M_lower hb h0, b.M_lower hb h1⟩
/-- A Lean structure by its fields. -/
def iso {α β : Type} (d : Kd α) (f : β → α) : Kd β where
  sz := d.sz
  E := d.E
  K := fun w x cs => d.K w (f x) cs
  M := fun w base ok x cs => d.M w base ok (f x) cs
  K_len := d.K_len
  K_one := d.K_one
  K_below := d.K_below
  K_of_M := d.K_of_M
  M_mono := d.M_mono
  M_bound := d.M_bound
  M_move := d.M_move
  M_lower := d.M_lower
/-- Nothing is of this kind: where the nesting's depth is used up. -/
def bot {α : Type} (sz : Nat) (E : List Nat) : Kd α where
  sz := sz
  E := E
  K := fun _ _ _ => False
  M := fun _ _ _ _ _ => False
  K_len := fun h => h.elim
  K_one := fun h => h.elim
  K_below := fun _ h => h
  K_of_M := fun h => h
  M_mono := fun _ h => h
  M_bound := fun h => h
  M_move := fun _ h => h
  M_lower := fun _ h => h
/-- A type nested in itself: nested at most n deep .. -/
def upto {α : Type} (F : Kd α → Kd α) (sz : Nat) (E : List Nat) : Nat → Kd α
  | 0 => bot sz E
  | n + 1 => F (upto F sz E n)
theorem C_get {α : Type} {d : Kd α} {w : World} {A : Option Addr} {n : Nat} {xs : List α} (h : d.C w A n xs) (z : α) (i : Int) (h0 : 0 ≤ i) (h1 : i < n) :
    ∃ ad c, A = some ad ∧ c.length = d.sz ∧ d.K w (xs.getD i.toNat z) c ∧ ∀ j u, c[j]? = some u → w.cell? (ad.add (i.toNat * d.sz + j)) = some u := ReadsRow.get_ h z i h0 h1
/-- What an append leaves: the old elements' rows and the new one's are not the new row's block. -/
theorem R_appended {α : Type} {d : Kd α} {e base : Nat} {ok okp : Nat → Prop} {W w1 : World} {v v1 : Value} {xs : List α} {p : α} {inner cs : List Value} (h0 : ∀ k, v.ownBlock = some k → ok k) (hr : Reps (d.M W base (fun k => ok k ∧ some k ≠ v.ownBlock)) d.sz xs inner) (hp : d.M W base okp p cs) (hokp : ∀ k, okp k → ok k ∧ some k ≠ v.ownBlock) (hfresh : ∀ k, W.heap.size ≤ k → ok k)
    (hown : w1.ownsRow base e d.sz v1 (xs.length + 1) (inner ++ cs)) (hg : W.grownBy w1 v.ownBlock) (hat : v1.ownBlock = v.ownBlock ∨ ∃ b, v1.ownBlock = some b ∧ W.heap.size ≤ b) : d.R e w1 base ok v1 (xs ++ [p]) := by
  have hne : ∀ k, some k ≠ v.ownBlock → k < W.heap.size → some k ≠ v1.ownBlock := by
    intro k hk hlt
    rcases hat with hat | ⟨b, hb, hle⟩
    · rw [hat]; exact hk
    · rw [hb]
      intro he
      injection he with he
      omega
  have step : ∀ {q : α} {c : List Value} {o : Nat → Prop}, d.M W base o q c → (∀ k, o k → ok k ∧ some k ≠ v.ownBlock) → d.M w1 base (fun k => ok k ∧ some k ≠ v1.ownBlock) q c := by
    intro q c o hq ho
    have h1 := d.M_move (w1 := w1) (fun k hk => hg.block k hk.2.2.1 (ho k hk.1).2) (d.M_bound hq)
    exact d.M_mono (fun k hk => ⟨(ho k hk.1).1, hne k (ho k hk.1).2 hk.2.2.1⟩) h1
  refine ⟨fun k hk => ?_, inner ++ cs, by rw [List.length_append, List.length_singleton]; exact hown, ?_⟩
  · rcases hat with hat | ⟨b, hb, hle⟩
    · exact h0 k (hat ▸ hk)
    · rw [hb] at hk
      injection hk with hk
      exact hfresh k (by omega)
  · exact (hr.imp_ (fun _ _ hq => step hq (fun _ hk => hk))).snoc (step hp hokp) (d.K_len (d.K_of_M hp))
section
variable {P : Program} {ops : Array Oper} {rest : List Oper} {o : Oper} {a : Act} {Q : Exit → Act → World → Prop} {α : Type}
/-- append(v, x), behind 'at_builtin'; the goal's world is 'W.alloc' of the variadic's box; x's cells are cs, made (its rows satisfy okp). hfresh: a block that is new at W is ok. -/
theorem R_append (d : Kd α) {w0 W : World} (base : Nat) (hgd : o.guard = none) (s x : Operand) (t e : TypeId) (z : Value) (bytes : Nat)
    (ho : o.op = .call { callee := .builtin .append, args := #[s, x], argTypes := #[t, t] })
    (ht : P.underlying t = some (.slice e)) (hinfo : (P.info? e).map (fun i => (i.zero, i.size, i.bytes)) = some (some z, d.sz, bytes)) (hz : z.cells.size = d.sz) (hs0 : 0 < d.sz) (hb0 : 0 < bytes)
    (v : Value) (xs : List α) (p : α) (cs : List Value) (ok okp : Nat → Prop) (hs : a.eval s = v) (hx : a.eval x = .slice (some ⟨W.heap.size, 0, none⟩) 1 1) (hp : d.M W base okp p cs) (hokp : ∀ k, okp k → ok k ∧ some k ≠ v.ownBlock) (hfresh : ∀ k, W.heap.size ≤ k → ok k)
    (HO : d.R e W base ok v xs) (HB : Below base w0 W) (hbase : base ≤ W.heap.size) (hl : (xs.length + 1) * bytes ≤ 140737488355328)
    (h : ∀ v1 w1, d.R e w1 base ok v1 (xs ++ [p]) → Below base w0 w1 → W.grownBy w1 v.ownBlock → (v1.ownBlock = v.ownBlock ∨ ∃ b, v1.ownBlock = some b ∧ W.heap.size ≤ b) → wpList P ops Q rest (a.put o.dst v1) w1) :
    wpList P ops Q (o :: rest) a (W.alloc (.cells cs.toArray e)) := by
  obtain ⟨h0, inner, hown, hr⟩ := HO
  refine print_append_cells base hgd s x t e z d.sz bytes ho ht hinfo hz hs0 hb0 v xs.length inner cs hs hx (d.K_len (d.K_of_M hp)) (d.K_one (d.K_of_M hp)) hown HB hbase hl ?_
  intro v1 w1 hown1 hb1 hg1 hat1
  exact h v1 w1 (R_appended h0 hr hp hokp hfresh hown1 hg1 hat1) hb1 hg1 hat1
end
section
variable {P : Program} {ops : Array Oper} {o : Oper} {a : Act} {Q : Exit → Act → World → Prop} {Kc : Act → World → Prop} {α : Type}
theorem R_append_step (d : Kd α) {w0 W : World} (base : Nat) (hw : Region.wanted o (yielded ops a.tmps) = true) (s x : Operand) (t e : TypeId) (z : Value) (bytes : Nat)
    (ho : o.op = .call { callee := .builtin .append, args := #[s, x], argTypes := #[t, t] })
    (ht : P.underlying t = some (.slice e)) (hinfo : (P.info? e).map (fun i => (i.zero, i.size, i.bytes)) = some (some z, d.sz, bytes)) (hz : z.cells.size = d.sz) (hs0 : 0 < d.sz) (hb0 : 0 < bytes)
    (v : Value) (xs : List α) (p : α) (cs : List Value) (ok okp : Nat → Prop) (hs : a.eval s = v) (hx : a.eval x = .slice (some ⟨W.heap.size, 0, none⟩) 1 1) (hp : d.M W base okp p cs) (hokp : ∀ k, okp k → ok k ∧ some k ≠ v.ownBlock) (hfresh : ∀ k, W.heap.size ≤ k → ok k)
    (HO : d.R e W base ok v xs) (HB : Below base w0 W) (hbase : base ≤ W.heap.size) (hl : (xs.length + 1) * bytes ≤ 140737488355328)
    (h : ∀ v1 w1, d.R e w1 base ok v1 (xs ++ [p]) → Below base w0 w1 → W.grownBy w1 v.ownBlock → (v1.ownBlock = v.ownBlock ∨ ∃ b, v1.ownBlock = some b ∧ W.heap.size ≤ b) → Kc (a.put o.dst v1) w1) :
    if Region.wanted o (yielded ops a.tmps) = true then Oper.wp P o a (W.alloc (.cells cs.toArray e)) Kc Q else Kc (a.put o.dst undef) (W.alloc (.cells cs.toArray e)) := by
  obtain ⟨h0, inner, hown, hr⟩ := HO
  refine step_append_cells base hw s x t e z d.sz bytes ho ht hinfo hz hs0 hb0 v xs.length inner cs hs hx (d.K_len (d.K_of_M hp)) (d.K_one (d.K_of_M hp)) hown HB hbase hl ?_
  intro v1 w1 hown1 hb1 hg1 hat1
  exact h v1 w1 (R_appended h0 hr hp hokp hfresh hown1 hg1 hat1) hb1 hg1 hat1
end
theorem C_of_reads {α : Type} {enc : α → Value} {d : α} {h1 : ∀ x, (enc x).oneCell' = true} {w : World} {A : Option Addr} {n : Nat} {xs : List α} (h : ReadsOf enc d w A n xs) : (scalar enc h1).C w A n xs := by
  refine ⟨h.1, h.2.1, fun hn => ?_⟩
  obtain ⟨ad, e, hc⟩ := h.2.2 hn
  refine ⟨ad, e, fun j p hj => ⟨[enc p], rfl, rfl, fun i u hu => ?_⟩⟩
  obtain ⟨hl, hp⟩ := List.getElem?_eq_some_iff.1 hj
  have h2 := hc j (by have := h.1; omega)
  rw [List.getD_eq_getElem?_getD, hj] at h2
  cases i with
  | zero =>
    have : enc p = u := by simpa using hu
    subst this
    simpa [scalar] using h2
  | succ i => simp at hu
theorem reads_of_C {α : Type} {enc : α → Value} {d : α} {h1 : ∀ x, (enc x).oneCell' = true} {w : World} {A : Option Addr} {n : Nat} {xs : List α} (h : (scalar enc h1).C w A n xs) : ReadsOf enc d w A n xs := by
  refine ⟨h.1, h.2.1, fun hn => ?_⟩
  obtain ⟨ad, e, hc⟩ := h.2.2 hn
  refine ⟨ad, e, fun j hj => ?_⟩
  have hl : j < xs.length := by have := h.1; omega
  obtain ⟨c, _, hK, hcell⟩ := hc j _ (List.getElem?_eq_getElem hl)
  have hK' : c = [enc xs[j]] := hK
  subst hK'
  have := hcell 0 _ rfl
  simpa [scalar, List.getD_eq_getElem?_getD, List.getElem?_eq_getElem hl] using this
end Kd
namespace Kd
section
variable {α : Type} {F : Kd α → Kd α} {sz : Nat} {E : List Nat} {hs : ∀ n, (upto F sz E n).sz = sz} {hE : ∀ n q, q ∈ (upto F sz E n).E → q ∈ E}
end
end Kd
namespace Kd
end Kd
namespace Kd
section
variable {α β : Type} {d : Kd α} {d' : Kd β} {e e' : Nat} {w w1 W : World} {base b b' : Nat} {ok ok' okv oku : Nat → Prop} {v u : Value} {xs : List α} {ys : List β}
theorem R_alloc (h : d.R e w base ok v xs) (o : Obj) : d.R e (w.alloc o) base ok v xs := R_below h (below_alloc (Below.refl _ _) o)
theorem R_drew (h : d.R e w base ok v xs) : d.R e w.drew base ok v xs := R_below h (below_drew (Below.refl _ _))
theorem R_drewN (h : d.R e w base ok v xs) (m : Nat) : d.R e (w.drewN m) base ok v xs := R_below h (pw_below_drewN (Below.refl _ _) m)
theorem C_alloc {A : Option Addr} {n : Nat} (h : d.C w A n xs) (o : Obj) : d.C (w.alloc o) A n xs := C_below h (below_alloc (Below.refl _ _) o)
theorem C_drew {A : Option Addr} {n : Nat} (h : d.C w A n xs) : d.C w.drew A n xs := C_below h (below_drew (Below.refl _ _))
theorem C_drewN {A : Option Addr} {n : Nat} (h : d.C w A n xs) (m : Nat) : d.C (w.drewN m) A n xs := C_below h (pw_below_drewN (Below.refl _ _) m)
theorem C_nil (d : Kd α) (w : World) : d.C w none ([] : List α).length [] := ⟨rfl, by simp, fun h => absurd h (Nat.lt_irrefl 0)⟩
theorem R_reads' {A : Option Addr} {n c : Nat} (h : d.R e w base ok (.slice A n c) xs) : n = xs.length ∧ n ≤ c ∧ d.C w A xs.length xs := by
  obtain ⟨A', c', he, hl, hr⟩ := R_reads h
  injection he with h1 h2 h3
  subst h1
  exact ⟨h2, by omega, hr⟩
end
section
variable {w W : World} {A : Option Addr} {n : Nat}
theorem at_int {k : IntKind} {xs : List Int} (h : (Kd.int k).C w A n xs) (i : Int) (h0 : 0 ≤ i) (h1 : i < n) : ∃ ad, A = some ad ∧ w.cell? (ad.add i.toNat) = some (.int k (rd xs i)) :=
  ReadsOf.at_ (reads_of_C (enc := Value.int k) (d := (0 : Int)) (h1 := fun _ => rfl) h) i h0 h1
variable {α : Type} {enc : α → Value} {h1 : ∀ x, (enc x).oneCell' = true} {e base g cap : Nat} {ok : Nat → Prop} {xs : List α}
end
section
variable {P : Program} {ops : Array Oper} {rest : List Oper} {o : Oper} {a : Act} {Q : Exit → Act → World → Prop}
theorem event_run {W w1 : World} {v : Value} (hgd : o.guard = none) (hrun : (execOp a.eval o).run P W = .ok (.value v) w1) (h : wpList P ops Q rest (a.put o.dst v) w1) : wpList P ops Q (o :: rest) a W := by
  refine wpList_plain hgd fun K hK => ?_
  unfold Oper.wp
  rw [hrun]
  exact hK _ _ h
variable {α : Type}
/-- A literal '[]T{..}': inner its cells. 'hd' picks the operation; 'hrun' by '(by go_simp; rfl)'. -/
theorem R_lit (d : Kd α) {w0 W : World} (base e : Nat) (hgd : o.guard = none) {N : Tmp} (_hd : o.dst = some N) {xs : List α} {inner : List Value} {ok okp : Nat → Prop}
    (hrun : (execOp a.eval o).run P W = .ok (.value (.slice (some ⟨W.heap.size, 0, none⟩) xs.length xs.length)) (W.alloc (.cells inner.toArray e)))
    (hrep : Reps (d.M W base okp) d.sz xs inner) (hok : ∀ k, okp k → ok k) (hfresh : ok W.heap.size) (HB : Below base w0 W) (hbase : base ≤ W.heap.size) (hm : xs.length ≤ 9223372036854775807)
    (h : ∀ v1 w1, d.R e w1 base ok v1 xs → Below base w0 w1 → W.grownBy w1 none → (∃ b, v1.ownBlock = some b ∧ W.heap.size ≤ b) → wpList P ops Q rest (a.put o.dst v1) w1) : wpList P ops Q (o :: rest) a W := by
  refine event_run hgd hrun (h _ _ ⟨fun k hk => ?_, inner, ?_, ?_⟩ (HB.alloc hbase _) (World.grownBy_alloc W _ none) ⟨W.heap.size, by simp [Value.ownBlock], Nat.le_refl _⟩)
  · have : W.heap.size = k := by simpa [Value.ownBlock] using hk
    subst this
    exact hfresh
  · have h2 := World.ownsRow_lit (base := base) (e := e) (size := d.sz) W inner.toArray xs.length hbase (by simpa [maxLen] using hm) (by simpa using hrep.1)
    simpa using h2
  · refine hrep.imp_ (fun p c hp => d.M_mono (fun k hk => ⟨hok k hk.1, fun he => ?_⟩) (M_below (d.M_bound hp) (below_alloc (Below.refl _ _) _)))
    have h3 : k = W.heap.size := by simpa [Value.ownBlock] using he
    have := hk.2.2.1
    omega
end
end Kd
section
variable {P : Program}
end
/-- A row of one's own that may begin inside its block. -/
def QRow (w : World) (base : Nat) (e : TypeId) (size : Nat) (v : Value) (n : Nat) (xs : List Value) : Prop :=
  xs.length = n * size ∧
  ((n = 0 ∧ ∃ A, v = .slice A 0 0 ∧ ∀ a, A = some a → base ≤ a.block ∧ ∃ cur, w.heap[a.block]? = some (.cells cur e (0, 0))) ∨
   ∃ g off cap cur, v = .slice (some ⟨g, off * size, none⟩) n cap ∧ base ≤ g ∧ w.heap[g]? = some (.cells cur e (0, 0)) ∧ n ≤ cap ∧ off + cap ≤ maxLen ∧ cur.size = (off + cap) * size ∧ (cur.toList.drop (off * size)).take (n * size) = xs)
section
variable {w w1 : World} {base n size : Nat} {e : TypeId} {v : Value} {xs : List Value}
theorem q_of_own (h : w.ownsRow base e size v n xs) : QRow w base e size v n xs := by
  obtain ⟨h1, h2⟩ := h
  refine ⟨h1, ?_⟩
  rcases h2 with ⟨rfl, h0⟩ | ⟨g, cap, cur, rfl, hb, hh, hnc, hcm, hcs, ht⟩
  · exact .inl ⟨h0, none, rfl, fun a ha => by cases ha⟩
  · exact .inr ⟨g, 0, cap, cur, by rw [Nat.zero_mul], hb, hh, hnc, by rw [Nat.zero_add]; exact hcm, by rw [Nat.zero_add]; exact hcs, by rw [Nat.zero_mul, List.drop_zero]; exact ht⟩
end
section
variable {P : Program}
end
namespace Kd
def Q {α : Type} (d : Kd α) (e : Nat) (w : World) (base : Nat) (ok : Nat → Prop) (v : Value) (xs : List α) : Prop :=
  (∀ k, v.ownBlock = some k → ok k) ∧ ∃ inner, QRow w base e d.sz v xs.length inner ∧ Reps (d.M w base (fun k => ok k ∧ some k ≠ v.ownBlock)) d.sz xs inner
section
variable {α : Type} {d : Kd α} {e : Nat} {w w1 W : World} {base : Nat} {ok ok' : Nat → Prop} {v : Value} {xs : List α}
theorem Q_of_R (h : d.R e w base ok v xs) : d.Q e w base ok v xs := by
  obtain ⟨h0, inner, ho, hr⟩ := h
  exact ⟨h0, inner, q_of_own ho, hr⟩
theorem Q_nil (d : Kd α) (e : Nat) (w : World) (base : Nat) (ok : Nat → Prop) : d.Q e w base ok (.slice none 0 0) [] := Q_of_R (R_nil d e w base ok)
end
section
variable {P : Program} {ops : Array Oper} {rest : List Oper} {o : Oper} {a : Act} {Q' : Exit → Act → World → Prop} {Kc : Act → World → Prop} {α : Type}
end
end Kd
namespace Kd
section
variable {α : Type} {d : Kd α} {e e' : Nat} {w w1 W : World} {base : Nat} {ok : Nat → Prop} {u v : Value} {xs : List α}
end
end Kd
namespace Kd
section
variable {α : Type} {d : Kd α} {e base g n cap : Nat} {ok okp : Nat → Prop} {W : World} {xs : List α}
end
end Kd
namespace Kd
section
variable {α : Type} {F : Kd α → Kd α} {sz : Nat} {E : List Nat} {hs : ∀ n, (upto F sz E n).sz = sz} {hE : ∀ n q, q ∈ (upto F sz E n).E → q ∈ E}
end
end Kd
namespace Kd
section
variable {P : Program} {ops : Array Oper} {rest : List Oper} {o : Oper} {a : Act} {Q : Exit → Act → World → Prop} {α : Type}
end
end Kd
namespace Kd
section
variable {P : Program} {ops : Array Oper} {rest : List Oper} {o : Oper} {a : Act} {Q : Exit → Act → World → Prop} {α : Type}
end
end Kd
theorem add_add (a : Addr) (i j : Nat) : (a.add i).add j = a.add (i + j) := by
  unfold Addr.add
  by_cases h1 : i = 0 <;> by_cases h2 : j = 0 <;> simp [h1, h2, Nat.add_assoc]
namespace Kd
section
variable {α : Type} {k : Kd α} {w : World} {A : Option Addr} {xs : List α} {m c : Nat}
theorem C_take (h : k.C w A xs.length xs) (hm : m ≤ xs.length) : k.C w A (xs.take m).length (xs.take m) := by
  have hl : (xs.take m).length = m := by rw [List.length_take]; omega
  refine ⟨rfl, by rw [hl]; have := h.2.1; omega, fun hp => ?_⟩
  obtain ⟨ad, e, hc⟩ := h.2.2 (by omega)
  refine ⟨ad, e, fun j p hj => hc j p ?_⟩
  rw [List.getElem?_take] at hj
  split at hj
  · exact hj
  · cases hj
end
end Kd
section
variable {P : Program}
end
theorem below_size {w W : World} (h : Below w.heap.size w W) : w.heap.size ≤ W.heap.size := h.size
theorem below_step {w W w2 : World} (h : Below w.heap.size w W) (k : Below W.heap.size W w2) : Below w.heap.size w w2 := below_then h h.size k
theorem ReadsInt.nil (W : World) (k : IntKind) : ReadsInt W k none ([] : List Int).length [] := ⟨rfl, by simp, fun h => absurd h (Nat.lt_irrefl 0)⟩
theorem ReadsInt.drewN {W : World} {k : IntKind} {A : Option Addr} {n : Nat} {xs : List Int} (h : ReadsInt W k A n xs) (m : Nat) : ReadsInt (W.drewN m) k A n xs := h
theorem below_set {w W : World} {g j : Nat} {v : Value} (h : Below w.heap.size w W) (hg : w.heap.size ≤ g) : Below w.heap.size w (W.setCell ⟨g, j, none⟩ v) := h.setCell hg _
theorem ReadsOf.nil {α : Type} (enc : α → Value) (d : α) (W : World) : ReadsOf enc d W none ([] : List α).length [] := ⟨rfl, by simp, fun h => absurd h (Nat.lt_irrefl 0)⟩
theorem ReadsOf.drewN {α : Type} {enc : α → Value} {d : α} {W : World} {A : Option Addr} {n : Nat} {xs : List α} (h : ReadsOf enc d W A n xs) (m : Nat) : ReadsOf enc d (W.drewN m) A n xs := h
theorem blk_put {w : World} {g : Nat} {t : TypeId} {cs cs' : Array Value} (h : w.heap[g]? = some (.cells cs t (0, 0))) (i : Nat) (u : Value) (e : cs.setIfInBounds i u = cs') : (w.setCell ⟨g, i, none⟩ u).heap[g]? = some (.cells cs' t (0, 0)) := e ▸ blk_set h i u
theorem below_drew1 {base : Nat} {w W : World} (h : Below base w W) : Below base w W.drew := h.drew
namespace Kd
section
variable {α β : Type} {d : Kd α} {d' : Kd β} {e e' base base' n : Nat} {ok ok' : Nat → Prop} {w W w1 W1 : World} {v u : Value} {xs : List α} {ys : List β} {A : Option Addr} {c : Nat}
end
section
variable {α : Type} {enc : α → Value} {h1 : ∀ x, (enc x).oneCell' = true} {w W : World} {A : Option Addr} {n g : Nat} {xs : List α}
end
end Kd
namespace Kd
section
variable {α : Type} {d : Kd α} {e base g : Nat} {ok : Nat → Prop} {w w1 : World} {v : Value} {xs : List α} {o : Obj}
end
end Kd
section
variable {P : Program} {ops : Array Oper} {rest : List Oper} {o : Oper} {a : Act} {Q : Exit → Act → World → Prop}
theorem box_event {W : World} (hgd : o.guard = none) {N : Tmp} (_hd : o.dst = some N) {cs : Array Value} {t : TypeId}
    (hrun : (execOp a.eval o).run P W = .ok (.value (.pointer (some ⟨W.heap.size, 0, none⟩))) (W.alloc (.cells cs t (0, 0))))
    (h : ∀ g, g = W.heap.size → ∀ w1, w1.heap[g]? = some (.cells cs t (0, 0)) → Below W.heap.size W w1 → wpList P ops Q rest (a.put o.dst (.pointer (some ⟨g, 0, none⟩))) w1) : wpList P ops Q (o :: rest) a W :=
  Kd.event_run hgd hrun (h _ rfl _ (blk_new W _) (below_alloc (Below.refl _ _) _))
end
namespace Kd
section
variable {α : Type} {enc : α → Value} {h1 : ∀ x, (enc x).oneCell' = true} {e base g n cap : Nat} {ok : Nat → Prop} {W : World} {xs : List α}
end
end Kd
section
variable {P : Program} {ops : Array Oper} {rest : List Oper} {o : Oper} {a : Act} {Q : Exit → Act → World → Prop}
end
namespace Kd
section
variable {α : Type} {enc : α → Value} {h1 : ∀ x, (enc x).oneCell' = true} {e base g n cap : Nat} {ok : Nat → Prop} {W : World} {xs : List α}
end
end Kd
section
variable {P : Program} {ops : Array Oper} {rest : List Oper} {o : Oper} {a : Act} {Q : Exit → Act → World → Prop} {W : World}
theorem gate_dst {N : Tmp} (_hN : o.dst = some N) (h : wpList P ops Q (o :: rest) a W) : wpList P ops Q (o :: rest) a W := h
end
section
variable {P : Program} {ops : Array Oper} {o : Oper} {a : Act} {Q : Exit → Act → World → Prop} {Kc : Act → World → Prop}
namespace Kd
variable {α : Type}
end Kd
end
section
variable {P : Program} {tmps : Array Value} {w : World}
end
namespace Kd
section
variable {P : Program} {α : Type}
end
section
variable {P : Program} {ops : Array Oper} {rest : List Oper} {o : Oper} {a : Act} {Q : Exit → Act → World → Prop} {Kc : Act → World → Prop} {α : Type}
end
end Kd
end Go.Proofs.YtegpepnmnlockaaDoorW.PrintWords
namespace Go.Proofs.YtegpepnmnlockaaDoorW.PrintLast
section
variable {P : Program} {ops : Array Oper} {Q : Exit → Act → World → Prop} {md : Region.Mode} {S : World → Prop} {ds : List Nat}
/-- Operation d waits for operation i, by a chain of at most 'fuel' edges. -/
def Region.reachB (md : Region.Mode) (ops : Array Oper) (i : Nat) : Nat → Nat → Bool
  | 0, _ => false
  | fuel + 1, d => match ops[d]? with
    | some o => o.after.any fun e => Region.binds md e && (e.on == i || Region.reachB md ops i fuel e.on)
    | none => false
/-- What is listed is closed under the edges. -/
def Region.closedB (md : Region.Mode) (ops : Array Oper) (listed : Array Bool) : Bool :=
  (List.range ops.size).all fun j => !listed.getD j false || match ops[j]? with
    | some o => o.after.all fun e => !Region.binds md e || listed.getD e.on false
    | none => true
/-- Each of ds that has not come up yet waits for number i. -/
def Region.lastB (md : Region.Mode) (ops : Array Oper) (listed : Array Bool) (ds : List Nat) (i : Nat) : Bool :=
  ds.all fun d => listed.getD d true || Region.reachB md ops i ops.size d
def ListedClosed (md : Region.Mode) (ops : Array Oper) (listed : Array Bool) : Prop :=
  ∀ j oj, ops[j]? = some oj → listed.getD j false = true → ∀ e ∈ oj.after, Region.binds md e = true → listed.getD e.on false = true
theorem Region.closedB_spec {listed : Array Bool} (h : Region.closedB md ops listed = true) : ListedClosed md ops listed := by
  intro j oj hj hl e he hb
  have hlt : j < ops.size := (Array.getElem?_eq_some_iff.1 hj).1
  have h1 := List.all_eq_true.1 h j (List.mem_range.2 hlt)
  simp only [hl, hj, Bool.not_true, Bool.false_or] at h1
  have h2 := Array.all_eq_true_iff_forall_mem.1 h1 e he
  simpa [hb] using h2
theorem ListedClosed.set {listed : Array Bool} {i : Nat} (h : ListedClosed md ops listed) (hi : i ∈ Region.ready md ops listed) : ListedClosed md ops (listed.setIfInBounds i true) := by
  obtain ⟨_, oi, hoi, hall⟩ := mem_ready.1 hi
  intro j oj hj hl e he hb
  by_cases hij : i = j
  · subst hij
    have : oj = oi := Option.some.inj (hj.symm.trans hoi)
    subst this
    exact getD_set_true (hall e he hb)
  · rw [getD_set_ne false hij] at hl
    exact getD_set_true (h j oj hj hl e he hb)
theorem Region.reach_listed {listed : Array Bool} {i : Nat} (hc : ListedClosed md ops listed) : ∀ (fuel d : Nat), Region.reachB md ops i fuel d = true → listed.getD d false = true → listed.getD i false = true
  | 0, _, h, _ => by simp [Region.reachB] at h
  | fuel + 1, d, h, hl => by
    unfold Region.reachB at h
    cases ho : ops[d]? with
    | none => rw [ho] at h; simp at h
    | some o =>
      rw [ho] at h
      obtain ⟨e, he, h1⟩ := Array.any_eq_true'.1 h
      simp only [Bool.and_eq_true, Bool.or_eq_true, beq_iff_eq] at h1
      have hle := hc d o ho hl e he h1.1
      rcases h1.2 with h2 | h2
      · rw [← h2]; exact hle
      · exact Region.reach_listed hc fuel e.on h2 hle
/-- What waits for i cannot come up before i is listed. -/
theorem Region.reach_not_ready {listed : Array Bool} {i d fuel : Nat} (hc : ListedClosed md ops listed) (hr : Region.reachB md ops i fuel d = true) (hun : listed.getD i true = false) : d ∉ Region.ready md ops listed := by
  intro hd
  obtain ⟨_, o, ho, hall⟩ := mem_ready.1 hd
  have hi : listed.getD i false = true := by
    cases fuel with
    | zero => simp [Region.reachB] at hr
    | succ n =>
      unfold Region.reachB at hr
      rw [ho] at hr
      obtain ⟨e, he, h1⟩ := Array.any_eq_true'.1 hr
      simp only [Bool.and_eq_true, Bool.or_eq_true, beq_iff_eq] at h1
      have hle := hall e he h1.1
      rcases h1.2 with h2 | h2
      · rw [← h2]; exact hle
      · exact Region.reach_listed hc n e.on h2 hle
  rcases Nat.lt_or_ge i listed.size with h' | h'
  · simp [h'] at hun hi
    rw [hun] at hi
    cases hi
  · simp [Array.getElem?_eq_none h'] at hun
/-- Whatever order is picked from here on, AND 'S' HOLDS BEHIND EVERY OPERATION THAT IS CARRIED OUT, those of ds apart. -/
def wpAnyLast (P : Program) (md : Region.Mode) (ops : Array Oper) (Q : Exit → Act → World → Prop) (S : World → Prop) (ds : List Nat) : Nat → Array Bool → Act → World → Prop
  | 0, listed, a, w => Region.ready md ops listed = [] ∧ Q .normal a w
  | fuel + 1, listed, a, w =>
    (Region.ready md ops listed = [] → Q .normal a w) ∧
    ∀ i ∈ Region.ready md ops listed, wpOp P ops Q i (fun a' w' => (i ∉ ds → S w → S w') ∧ wpAnyLast P md ops Q S ds fuel (listed.setIfInBounds i true) a' w') a w
theorem wpAny_of_last : ∀ (fuel : Nat) (listed : Array Bool) (a : Act) (w : World), wpAnyLast P md ops Q S ds fuel listed a w → wpAny P md ops Q fuel listed a w
  | 0, _, _, _, h => h
  | fuel + 1, _, _, _, h => ⟨h.1, fun i hi => wpOp_mono (fun a' w' h' => wpAny_of_last fuel _ a' w' h'.2) (h.2 i hi)⟩
theorem wpAnyLast_first {i : Nat} {oi : Oper} {v : Value} (hi : ops[i]? = some oi) (hsel : ∀ (j : Nat) (o : Oper) cs b, ops[j]? = some o → o.op ≠ .select cs b)
    (hQ : ∀ c a w, Q (.panic c) (a.put oi.dst v) w → Q (.panic c) a w) (n : Nat) :
    ∀ (fuel : Nat) (listed : Array Bool) (a : Act) (w : World),
      (∀ j oj, ops[j]? = some oj → j ≠ i → listed.getD j true = false → (∀ e ∈ oj.after, Region.binds md e = true → e.on ≠ i) → oi.apart ops oj = true) →
      ListedClosed md ops listed → (∀ d ∈ ds, listed.getD d true = false → Region.reachB md ops i n d = true) →
      i ∈ Region.ready md ops listed → YieldsIf P ops S oi v a → S w →
      wpAnyLast P md ops Q S ds fuel (listed.setIfInBounds i true) (a.put oi.dst v) w → wpAnyLast P md ops Q S ds (fuel + 1) listed a w := by
  intro fuel
  induction fuel with
  | zero =>
    intro listed a w _ _ _ hr hy hS H
    refine ⟨fun h => (by rw [h] at hr; cases hr), fun j hj => ?_⟩
    by_cases hji : j = i
    · subst hji; exact hy.wpOp hi hS ⟨fun _ h => h, H⟩
    · have := ready_mono hj hji
      rw [H.1] at this
      cases this
  | succ fuel ih =>
    intro listed a w hfree hc hd hr hy hS H
    refine ⟨fun h => (by rw [h] at hr; cases hr), fun j hj => ?_⟩
    by_cases hji : j = i
    · subst hji; exact hy.wpOp hi hS ⟨fun _ h => h, H⟩
    · have h1 := H.2 j (ready_mono hj hji)
      obtain ⟨hjun, oj, hoj, hall⟩ := mem_ready.1 hj
      have hiun := (mem_ready.1 hr).1
      have hnot : ∀ e ∈ oj.after, Region.binds md e = true → e.on ≠ i := fun e he hb heq => by
        have h1 := hall e he hb
        rw [heq] at h1
        rcases Nat.lt_or_ge i listed.size with h' | h'
        · simp [h'] at hiun h1; rw [hiun] at h1; cases h1
        · simp [Array.getElem?_eq_none h'] at h1
      have hjd : j ∉ ds := fun hm => Region.reach_not_ready hc (hd j hm hjun) hiun hj
      have h2 := wpOp_putIf hoj (hfree j oj hoj hji hjun hnot) (fun cs b => hsel i oi cs b hi) (fun cs b => hsel j oj cs b hoj) hQ hy h1
      have hfree' : ∀ k ok, ops[k]? = some ok → k ≠ i → (listed.setIfInBounds j true).getD k true = false →
          (∀ e ∈ ok.after, Region.binds md e = true → e.on ≠ i) → oi.apart ops ok = true := fun k ok hk hki hun hno => by
        refine hfree k ok hk hki ?_ hno
        by_cases hjk : j = k
        · subst hjk; exact hjun
        · rw [getD_set_ne true hjk] at hun; exact hun
      have hd' : ∀ d ∈ ds, (listed.setIfInBounds j true).getD d true = false → Region.reachB md ops i n d = true := fun d hm hun => by
        refine hd d hm ?_
        by_cases hjk : j = d
        · subst hjk; exact hjun
        · rw [getD_set_ne true hjk] at hun; exact hun
      refine wpOp_mono (fun a' w' h3 => ⟨h3.2.1, ih (listed.setIfInBounds j true) a' w' hfree' (hc.set hj) hd' (ready_mono hr (Ne.symm hji)) h3.1 (h3.2.1 hjd hS) ?_⟩) h2
      rw [Array.setIfInBounds_comm _ _ hji]
      exact h3.2.2
/-- Take number 'i' first, which yields whatever the world: no S is asked for, nor that anything waits for it. -/
theorem wpAnyLast_any {i : Nat} {oi : Oper} {v : Value} (hi : ops[i]? = some oi) (hsel : ∀ (j : Nat) (o : Oper) cs b, ops[j]? = some o → o.op ≠ .select cs b)
    (hQ : ∀ c a w, Q (.panic c) (a.put oi.dst v) w → Q (.panic c) a w) :
    ∀ (fuel : Nat) (listed : Array Bool) (a : Act) (w : World),
      (∀ j oj, ops[j]? = some oj → j ≠ i → listed.getD j true = false → (∀ e ∈ oj.after, Region.binds md e = true → e.on ≠ i) → oi.apart ops oj = true) →
      i ∈ Region.ready md ops listed → Yields P ops oi v a →
      wpAnyLast P md ops Q S ds fuel (listed.setIfInBounds i true) (a.put oi.dst v) w → wpAnyLast P md ops Q S ds (fuel + 1) listed a w := by
  intro fuel
  induction fuel with
  | zero =>
    intro listed a w _ hr hy H
    refine ⟨fun h => (by rw [h] at hr; cases hr), fun j hj => ?_⟩
    by_cases hji : j = i
    · subst hji; exact (hy.yieldsIf (S := fun _ => True)).wpOp hi trivial ⟨fun _ h => h, H⟩
    · have := ready_mono hj hji
      rw [H.1] at this
      cases this
  | succ fuel ih =>
    intro listed a w hfree hr hy H
    refine ⟨fun h => (by rw [h] at hr; cases hr), fun j hj => ?_⟩
    by_cases hji : j = i
    · subst hji; exact (hy.yieldsIf (S := fun _ => True)).wpOp hi trivial ⟨fun _ h => h, H⟩
    · have h1 := H.2 j (ready_mono hj hji)
      obtain ⟨hjun, oj, hoj, hall⟩ := mem_ready.1 hj
      have hiun := (mem_ready.1 hr).1
      have hnot : ∀ e ∈ oj.after, Region.binds md e = true → e.on ≠ i := fun e he hb heq => by
        have h1 := hall e he hb
        rw [heq] at h1
        rcases Nat.lt_or_ge i listed.size with h' | h'
        · simp [h'] at hiun h1; rw [hiun] at h1; cases h1
        · simp [Array.getElem?_eq_none h'] at h1
      have h2 := wpOp_put hoj (hfree j oj hoj hji hjun hnot) (fun cs b => hsel i oi cs b hi) (fun cs b => hsel j oj cs b hoj) hQ hy h1
      have hfree' : ∀ k ok, ops[k]? = some ok → k ≠ i → (listed.setIfInBounds j true).getD k true = false →
          (∀ e ∈ ok.after, Region.binds md e = true → e.on ≠ i) → oi.apart ops ok = true := fun k ok hk hki hun hno => by
        refine hfree k ok hk hki ?_ hno
        by_cases hjk : j = k
        · subst hjk; exact hjun
        · rw [getD_set_ne true hjk] at hun; exact hun
      refine wpOp_mono (fun a' w' h3 => ⟨h3.2.1, ih (listed.setIfInBounds j true) a' w' hfree' (ready_mono hr (Ne.symm hji)) h3.1 ?_⟩) h2
      rw [Array.setIfInBounds_comm _ _ hji]
      exact h3.2.2
/-- Take number 'i' first. -/
theorem wpAnyLast_take {i : Nat} {oi : Oper} {v : Value} {fuel : Nat} {listed : Array Bool} {a : Act} {w : World} (hi : ops[i]? = some oi)
    (hs : Region.noSelect ops = true) (hf : Region.free md ops listed i = true) (hr : (Region.ready md ops listed).contains i = true)
    (hc : Region.closedB md ops listed = true) (hl : Region.lastB md ops listed ds i = true)
    (hQ : ∀ c a w, Q (.panic c) (a.put oi.dst v) w → Q (.panic c) a w) (hy : YieldsIf P ops S oi v a) (hS : S w)
    (h : wpAnyLast P md ops Q S ds fuel (listed.setIfInBounds i true) (a.put oi.dst v) w) : wpAnyLast P md ops Q S ds (fuel + 1) listed a w :=
  wpAnyLast_first hi (Region.noSelect_spec hs) hQ ops.size fuel listed a w (Region.free_spec hi hf) (Region.closedB_spec hc)
    (fun d hm hun => by have := List.all_eq_true.1 hl d hm; rw [hun] at this; simpa using this) (by simpa using hr) hy hS h
theorem wpAnyLast_all {rs : List Nat} {fuel : Nat} {listed : Array Bool} {a : Act} {w : World} (hr : Region.ready md ops listed = rs) (hne : rs ≠ [])
    (h : ∀ i ∈ rs, wpOp P ops Q i (fun a' w' => (i ∉ ds → S w → S w') ∧ wpAnyLast P md ops Q S ds fuel (listed.setIfInBounds i true) a' w') a w) : wpAnyLast P md ops Q S ds (fuel + 1) listed a w :=
  ⟨fun h0 => absurd (hr ▸ h0) hne, hr ▸ h⟩
theorem wpAnyLast_done {listed : Array Bool} {a : Act} {w : World} (hr : Region.ready md ops listed = []) (h : Q .normal a w) :
    ∀ fuel, wpAnyLast P md ops Q S ds fuel listed a w
  | 0 => ⟨hr, h⟩
  | _ + 1 => ⟨fun _ => h, by rw [hr]; simp⟩
theorem wp_region_last {id : Nat} {a : Act} {w : World} (hm : P.follows .mixedOrders = true)
    (h : wpAnyLast P .any ops Q S ds ops.size (Array.replicate ops.size false) a { w with drawn := w.drawn + 1 }) : (Code.region id ops true).wp P Q a w :=
  wp_region_any hm (wpAny_of_last _ _ _ _ h)
end
section
variable {P : Program} {ops : Array Oper} {Q : Exit → Act → World → Prop} {md : Region.Mode} {S : World → Prop} {ds : List Nat}
def AllReadyL (P : Program) (md : Region.Mode) (ops : Array Oper) (Q : Exit → Act → World → Prop) (S : World → Prop) (ds : List Nat) (fuel : Nat) (listed : Array Bool) (a : Act) (w : World) (rs : List Nat) : Prop :=
  ∀ i ∈ rs, wpOp P ops Q i (fun a' w' => (i ∉ ds → S w → S w') ∧ wpAnyLast P md ops Q S ds fuel (listed.setIfInBounds i true) a' w') a w
theorem AllReadyL.nil {fuel : Nat} {listed : Array Bool} {a : Act} {w : World} : AllReadyL P md ops Q S ds fuel listed a w [] := fun _ h => by cases h
theorem AllReadyL.cons {fuel : Nat} {listed : Array Bool} {a : Act} {w : World} {i : Nat} {o : Oper} {rs : List Nat} (ho : ops[i]? = some o) (hd : i ∉ ds)
    (h : ∀ K' : Act → World → Prop, Shut (∀ a w, S w → (S w → wpAnyLast P md ops Q S ds fuel (listed.setIfInBounds i true) a w) → K' a w) → if Region.wanted o (yielded ops a.tmps) = true then Oper.wp P o a w K' Q else K' (a.put o.dst undef) w)
    (hs : AllReadyL P md ops Q S ds fuel listed a w rs) : AllReadyL P md ops Q S ds fuel listed a w (i :: rs) := fun j hj => by
  rcases List.mem_cons.1 hj with rfl | hj
  · exact wpOp_step ho (fun K' hK => h K' (fun a w hS hW => hK a w ⟨fun _ _ => hS, hW hS⟩))
  · exact hs j hj
theorem wpAnyLast_ready {rs : List Nat} {fuel : Nat} {listed : Array Bool} {a : Act} {w : World} (hr : Region.ready md ops listed = rs) (hne : rs ≠ [])
    (h : AllReadyL P md ops Q S ds fuel listed a w rs) : wpAnyLast P md ops Q S ds (fuel + 1) listed a w := wpAnyLast_all hr hne h
/-- THE SAME STEPS WITH WHAT HAS COME UP WRITTEN OUT (a literal array of Bools) and one check a step: quicker, and what is printed stays short. -/
theorem start_ {id n : Nat} {a : Act} {w : World} (l : Array Bool) (hm : P.follows .mixedOrders = true) (hn : ops.size = n) (hl : Array.replicate n false = l) (hS : S w.drew)
    (h : S w.drew → wpAnyLast P .any ops Q S ds n l a w.drew) : (Code.region id ops true).wp P Q a w := by
  subst hn
  subst hl
  exact wp_region_last hm (h hS)
def takeB (md : Region.Mode) (ops : Array Oper) (ds : List Nat) (l l' : Array Bool) (i : Nat) : Bool :=
  Region.noSelect ops && Region.free md ops l i && (Region.ready md ops l).contains i && Region.closedB md ops l && Region.lastB md ops l ds i && (l.setIfInBounds i true == l')
theorem take_ {i : Nat} {N : Option Tmp} {oi : Oper} {v : Value} {fuel : Nat} {l : Array Bool} {a : Act} {w : World} (l' : Array Bool) (hi : ops[i]? = some oi) (hN : oi.dst = N) (hc : takeB md ops ds l l' i = true)
    (hQ : ∀ c a w, Q (.panic c) (a.put oi.dst v) w → Q (.panic c) a w) (hy : YieldsIf P ops S oi v a) (hS : S w) {a' : Act} (ha : a.put N v = a')
    (h : wpAnyLast P md ops Q S ds fuel l' a' w) : wpAnyLast P md ops Q S ds (fuel + 1) l a w := by
  subst ha
  subst hN
  simp only [takeB, Bool.and_eq_true, beq_iff_eq] at hc
  obtain ⟨⟨⟨⟨⟨h1, h2⟩, h3⟩, h4⟩, h5⟩, h6⟩ := hc
  subst h6
  exact wpAnyLast_take hi h1 h2 h3 h4 h5 hQ hy hS h
def anyB (md : Region.Mode) (ops : Array Oper) (l l' : Array Bool) (i : Nat) : Bool :=
  Region.noSelect ops && Region.free md ops l i && (Region.ready md ops l).contains i && (l.setIfInBounds i true == l')
/-- An operation that yields in every world (a move, a number, an address): taken first wherever it may come up, behind a store too. -/
theorem pure_ {i : Nat} {N : Option Tmp} {oi : Oper} {v : Value} {fuel : Nat} {l : Array Bool} {a : Act} {w : World} (l' : Array Bool) (hi : ops[i]? = some oi) (hN : oi.dst = N) (hc : anyB md ops l l' i = true)
    (hQ : ∀ c a w, Q (.panic c) (a.put oi.dst v) w → Q (.panic c) a w) (hy : Yields P ops oi v a) {a' : Act} (ha : a.put N v = a')
    (h : wpAnyLast P md ops Q S ds fuel l' a' w) : wpAnyLast P md ops Q S ds (fuel + 1) l a w := by
  subst ha
  subst hN
  simp only [anyB, Bool.and_eq_true, beq_iff_eq] at hc
  obtain ⟨⟨⟨h1, h2⟩, h3⟩, h6⟩ := hc
  subst h6
  exact wpAnyLast_any hi (Region.noSelect_spec h1) hQ fuel l a w (Region.free_spec hi h2) (by simpa using h3) hy h
def readyB (md : Region.Mode) (ops : Array Oper) (l l' : Array Bool) (i : Nat) : Bool := (Region.ready md ops l == [i]) && (l.setIfInBounds i true == l')
/-- One operation alone may come up now (a call, a build, an append ..): it is run, S is shown behind it. -/
theorem one_ {i : Nat} {N : Option Tmp} {oi : Oper} {fuel : Nat} {l : Array Bool} {a : Act} {w : World} (l' : Array Bool) (hi : ops[i]? = some oi) (hN : oi.dst = N) (hc : readyB md ops l l' i = true) (hd : i ∉ ds)
    (h : ∀ K : Act → World → Prop, Shut (∀ a' w', S w' → (S w' → wpAnyLast P md ops Q S ds fuel l' a' w') → K a' w') → if Region.wanted oi (yielded ops a.tmps) = true then Oper.wp P oi a w K Q else K (a.put N undef) w) :
    wpAnyLast P md ops Q S ds (fuel + 1) l a w := by
  subst hN
  simp only [readyB, Bool.and_eq_true, beq_iff_eq] at hc
  obtain ⟨h1, h2⟩ := hc
  subst h2
  exact wpAnyLast_ready h1 (by simp) (AllReadyL.cons hi hd (fun K hK => h K hK) AllReadyL.nil)
theorem done_ {l : Array Bool} {a : Act} {w : World} {n : Nat} (hr : (Region.ready md ops l == []) = true) (h : Q .normal a w) : wpAnyLast P md ops Q S ds n l a w := wpAnyLast_done (by simpa using hr) h n
/-- The act written out. -/
theorem norm_ {fuel : Nat} {l : Array Bool} {a a' : Act} {w : World} (ha : a = a') (h : wpAnyLast P md ops Q S ds fuel l a' w) : wpAnyLast P md ops Q S ds fuel l a w := by
  subst ha
  exact h
/-- A call of a Go function, by its contract. -/
theorem call_ {oi : Oper} {N : Option Tmp} {a : Act} {w : World} {K : Act → World → Prop} (f : FuncId) (args : Array Value) (hw : Region.wanted oi (yielded ops a.tmps) = true) (hN : oi.dst = N) (hrun : (execOp a.eval oi).run P w = .ok (.enter f args) w)
    (h : Calls P f args w fun e w' => ∃ v, e = .returned v ∧ K (a.put N v) w') : if Region.wanted oi (yielded ops a.tmps) = true then Oper.wp P oi a w K Q else K (a.put N undef) w := by
  rw [if_pos hw]
  subst hN
  unfold Oper.wp
  rw [hrun, Oper.upon_enter]
  refine h.mono fun e w'' hh => ?_
  obtain ⟨v, rfl, hk⟩ := hh
  exact hk
theorem enters_ {f : FuncId} {fn : Func} (hf : P.funcs[f]? = some fn) (hname : (fn.name == "runtime.NumGoroutine") = false) (hb : fn.body.isSome = true) (args : Array Value) (w : World) : (callFunc f args).run P w = .ok (.enter f args) w := by
  have h1 : fn.name ≠ "runtime.NumGoroutine" := by simpa using hname
  obtain ⟨c, hc⟩ := Option.isSome_iff_exists.1 hb
  simp [callFunc, hf, h1, hc]
/-- The same, the operation's run shown here: 'goes_ A.func3 (by kernel_rfl) rfl #[..] (by rfl) rfl rfl (by rfl) ?_'. -/
theorem goes_ {oi : Oper} {N : Option Tmp} {a : Act} {w : World} {K : Act → World → Prop} {f : FuncId} {fn : Func} {«as» : Array Operand} {ts : Array TypeId} (hf : P.funcs[f]? = some fn) (hname : (fn.name == "runtime.NumGoroutine") = false) (hb : fn.body.isSome = true) (args : Array Value)
    (hw : Region.wanted oi (yielded ops a.tmps) = true) (hN : oi.dst = N) (hop : oi.op = .call { callee := .value (.func f), args := «as», argTypes := ts }) (hargs : «as».map a.eval = args)
    (h : Calls P f args w fun e w' => ∃ v, e = .returned v ∧ K (a.put N v) w') : if Region.wanted oi (yielded ops a.tmps) = true then Oper.wp P oi a w K Q else K (a.put N undef) w := by
  refine call_ f args hw hN ?_ h
  have he := enters_ hf hname hb args w
  unfold execOp
  simp [hop, resolve, Deferred.ofValue, invoke, Act.eval, hargs, he]
/-- A call in a plain region, «as» an arm of go_wp2_with ('hd' first: it fails at once at another operation). -/
theorem goesL_ {rest : List Oper} {oi : Oper} {a : Act} {w : World} (N : Option Tmp) (hd : oi.dst = N) (hg : oi.guard = none) {f : FuncId} {fn : Func} {«as» : Array Operand} {ts : Array TypeId} (hf : P.funcs[f]? = some fn) (hname : (fn.name == "runtime.NumGoroutine") = false) (hb : fn.body.isSome = true) (args : Array Value)
    (hop : oi.op = .call { callee := .value (.func f), args := «as», argTypes := ts }) (hargs : «as».map a.eval = args)
    (h : Calls P f args w fun e w' => ∃ v, e = .returned v ∧ wpList P ops Q rest (a.put N v) w') : wpList P ops Q (oi :: rest) a w := by
  refine wpList_plain hg fun K hK => ?_
  have he := enters_ hf hname hb args w
  have hrun : (execOp a.eval oi).run P w = .ok (.enter f args) w := by
    unfold execOp
    simp [hop, resolve, Deferred.ofValue, invoke, Act.eval, hargs, he]
  unfold Oper.wp
  rw [hrun, Oper.upon_enter]
  refine h.mono fun e w'' hh => ?_
  obtain ⟨v, rfl, hk⟩ := hh
  subst hd
  exact hK _ _ hk
/-- An operation that yields a value (and may make memory). -/
theorem value_ {oi : Oper} {N : Option Tmp} {a : Act} {w w1 : World} {v : Value} {K : Act → World → Prop} (hw : Region.wanted oi (yielded ops a.tmps) = true) (hN : oi.dst = N) (hrun : (execOp a.eval oi).run P w = .ok (.value v) w1)
    (h : K (a.put N v) w1) : if Region.wanted oi (yielded ops a.tmps) = true then Oper.wp P oi a w K Q else K (a.put N undef) w := by
  rw [if_pos hw]
  subst hN
  unfold Oper.wp
  rw [hrun]
  exact h
theorem i64_w (n : Int) : IntKind.i64.wrap n = Go.RowKit.wrap64 n := by unfold Go.RowKit.wrap64; exact IntKind.wrap_i64 n
theorem i32_w (n : Int) : IntKind.i32.wrap n = Go.RowKit.wrap32 n := by unfold Go.RowKit.wrap32; exact IntKind.wrap_i32 n
end
end Go.Proofs.YtegpepnmnlockaaDoorW.PrintLast
namespace Go.Proofs.YtegpepnmnlockaaDoorW.PrintLast
open Go.Proofs.YtegpepnmnlockaaDoorW.PrintWords (Aside0)
def needsOf (md : Region.Mode) (o : Oper) : List Nat := (o.after.toList.filter (fun e => Region.binds md e)).map (fun e => e.on)
def clashOf (md : Region.Mode) (ops : Array Oper) (i : Nat) (oi : Oper) : List Nat := (List.range ops.size).filter fun j => !(j == i) && match ops[j]? with
  | some oj => !(oj.after.any (fun e => Region.binds md e && e.on == i) || oi.apart ops oj)
  | none => false
/-- No select in it; for each operation: what must have come up before it, and what may not come up behind it if it is taken first. -/
def rtab (md : Region.Mode) (ops : Array Oper) : Bool × List (List Nat × List Nat) := (Region.noSelect ops, (List.range ops.size).map fun i => match ops[i]? with
  | some o => (needsOf md o, clashOf md ops i o)
  | none => ([], []))
def readyAt (T : List (List Nat × List Nat)) (l : List Bool) (i : Nat) : Bool := !l.getD i true && match T[i]? with
  | some r => r.1.all (fun j => l.getD j false)
  | none => false
def readyT (T : List (List Nat × List Nat)) (l : List Bool) : List Nat := (List.range T.length).filter (readyAt T l)
def freeT (T : List (List Nat × List Nat)) (l : List Bool) (i : Nat) : Bool := match T[i]? with
  | some r => r.2.all (fun j => l.getD j true)
  | none => false
def closedT (T : List (List Nat × List Nat)) (l : List Bool) : Bool := (List.range T.length).all fun j => !l.getD j false || match T[j]? with
  | some r => r.1.all (fun k => l.getD k false)
  | none => true
def reachT (T : List (List Nat × List Nat)) (i : Nat) : Nat → Nat → Bool
  | 0, _ => false
  | fuel + 1, d => match T[d]? with
    | some r => r.1.any fun j => j == i || reachT T i fuel j
    | none => false
def lastT (T : List (List Nat × List Nat)) (l : List Bool) (ds : List Nat) (i : Nat) : Bool := ds.all fun d => l.getD d true || reachT T i T.length d
section
variable {md : Region.Mode} {ops : Array Oper} {T : Bool × List (List Nat × List Nat)} {l l' li lj lk : Array Bool} {ds : List Nat} {i j k : Nat}
theorem gd (l : Array Bool) (j : Nat) (b : Bool) : l.getD j b = l.toList.getD j b := by simp [Array.getD_eq_getD_getElem?, List.getD_eq_getElem?_getD]
theorem needs_all (o : Oper) (p : Nat → Bool) : o.after.all (fun e => !Region.binds md e || p e.on) = (needsOf md o).all p := by
  unfold needsOf
  rw [← Array.all_toList]
  induction o.after.toList with
  | nil => rfl
  | cons e r ih =>
    rw [List.all_cons, ih, List.filter_cons]
    cases h : Region.binds md e <;> simp
theorem needs_any (o : Oper) (p : Nat → Bool) : o.after.any (fun e => Region.binds md e && p e.on) = (needsOf md o).any p := by
  unfold needsOf
  rw [← Array.any_toList]
  induction o.after.toList with
  | nil => rfl
  | cons e r ih =>
    rw [List.any_cons, ih, List.filter_cons]
    cases h : Region.binds md e <;> simp
theorem rtab_length : (rtab md ops).2.length = ops.size := by simp [rtab]
theorem rtab_some {o : Oper} (h : ops[i]? = some o) : (rtab md ops).2[i]? = some (needsOf md o, clashOf md ops i o) := by
  have hi := (Array.getElem?_eq_some_iff.1 h).1
  unfold rtab
  rw [List.getElem?_map, List.getElem?_range hi, Option.map_some, h]
theorem rtab_none (h : ops[i]? = none) : (rtab md ops).2[i]? = none := by
  have hi : ops.size ≤ i := Array.getElem?_eq_none_iff.1 h
  exact List.getElem?_eq_none (by rw [rtab_length]; exact hi)
theorem readyAt_eq : readyAt (rtab md ops).2 l.toList i = (!l.getD i true && ((ops[i]?).map (·.after.all fun e => !Region.binds md e || l.getD e.on false)).getD false) := by
  unfold readyAt
  rw [gd]
  cases h : ops[i]? with
  | none => rw [rtab_none h]; rfl
  | some o =>
    rw [rtab_some h]
    simp only [Option.map_some, Option.getD_some]
    rw [← needs_all]
    simp only [gd]
theorem ready_eq : Region.ready md ops l = readyT (rtab md ops).2 l.toList := by
  unfold Region.ready readyT
  rw [rtab_length]
  refine List.filter_congr (fun i _ => ?_)
  rw [readyAt_eq]
theorem free_eq : Region.free md ops l i = freeT (rtab md ops).2 l.toList i := by
  unfold Region.free freeT
  cases h : ops[i]? with
  | none => rw [rtab_none h]
  | some oi =>
    rw [rtab_some h]
    simp only [clashOf]
    rw [List.all_filter]
    congr 1
    funext j
    rw [gd]
    cases hj : ops[j]? with
    | none => cases (j == i) <;> cases (l.toList.getD j true) <;> simp
    | some oj =>
      cases (j == i) <;> cases (l.toList.getD j true) <;> cases (oj.after.any (fun e => Region.binds md e && e.on == i) || oi.apart ops oj) <;> simp_all
theorem closed_eq : Region.closedB md ops l = closedT (rtab md ops).2 l.toList := by
  unfold Region.closedB closedT
  rw [rtab_length]
  congr 1
  funext j
  rw [gd]
  cases h : ops[j]? with
  | none => rw [rtab_none h]
  | some o =>
    rw [rtab_some h]
    simp only
    rw [← needs_all]
    simp only [gd]
theorem reach_eq : ∀ (fuel d : Nat), Region.reachB md ops i fuel d = reachT (rtab md ops).2 i fuel d
  | 0, _ => rfl
  | fuel + 1, d => by
    unfold Region.reachB reachT
    cases h : ops[d]? with
    | none => rw [rtab_none h]
    | some o =>
      rw [rtab_some h]
      simp only
      rw [← needs_any]
      congr 1
      funext e
      rw [reach_eq fuel]
theorem last_eq : Region.lastB md ops l ds i = lastT (rtab md ops).2 l.toList ds i := by
  unfold Region.lastB lastT
  rw [rtab_length]
  congr 1
  funext d
  rw [gd, reach_eq]
theorem readyAt_mem (h : readyAt T.2 l.toList i = true) (hT : rtab md ops = T) : (Region.ready md ops l).contains i = true := by
  subst hT
  rw [ready_eq]
  unfold readyT
  rw [List.contains_iff_mem, List.mem_filter, List.mem_range]
  refine ⟨?_, h⟩
  unfold readyAt at h
  rw [Bool.and_eq_true] at h
  cases hq : (rtab md ops).2[i]? with
  | none => rw [hq] at h; simp at h
  | some r => exact (List.getElem?_eq_some_iff.1 hq).1
theorem set_of (h : (l.toList.set i true == l'.toList) = true) : (l.setIfInBounds i true == l') = true := by
  rw [beq_iff_eq] at h ⊢
  apply Array.ext'
  rw [Array.toList_setIfInBounds]
  exact h
def anyT (T : Bool × List (List Nat × List Nat)) (l l' : List Bool) (i : Nat) : Bool := T.1 && freeT T.2 l i && readyAt T.2 l i && (l.set i true == l')
/-- pure_'s condition out of the table. -/
theorem any_of (hT : rtab md ops = T) (h : anyT T l.toList l'.toList i = true) : anyB md ops l l' i = true := by
  simp only [anyT, Bool.and_eq_true] at h
  obtain ⟨⟨⟨h1, h2⟩, h3⟩, h4⟩ := h
  have h5 := readyAt_mem h3 hT
  have h6 := set_of h4
  subst hT
  simp only [anyB, Bool.and_eq_true]
  exact ⟨⟨⟨h1, by rw [free_eq]; exact h2⟩, h5⟩, h6⟩
def takeT (T : Bool × List (List Nat × List Nat)) (ds : List Nat) (l l' : List Bool) (i : Nat) : Bool := T.1 && freeT T.2 l i && readyAt T.2 l i && closedT T.2 l && lastT T.2 l ds i && (l.set i true == l')
/-- take_'s. -/
theorem take_of (hT : rtab md ops = T) (h : takeT T ds l.toList l'.toList i = true) : takeB md ops ds l l' i = true := by
  simp only [takeT, Bool.and_eq_true] at h
  obtain ⟨⟨⟨⟨⟨h1, h2⟩, h3⟩, h4⟩, h5⟩, h6⟩ := h
  have h7 := readyAt_mem h3 hT
  have h8 := set_of h6
  subst hT
  simp only [takeB, Bool.and_eq_true]
  exact ⟨⟨⟨⟨⟨h1, by rw [free_eq]; exact h2⟩, h7⟩, by rw [closed_eq]; exact h4⟩, by rw [last_eq]; exact h5⟩, h8⟩
/-- one_'s and last_'s. -/
theorem one_of (hT : rtab md ops = T) (h : (readyT T.2 l.toList == [i] && l.toList.set i true == l'.toList) = true) : readyB md ops l l' i = true := by
  simp only [Bool.and_eq_true] at h
  obtain ⟨h1, h2⟩ := h
  subst hT
  simp only [readyB, Bool.and_eq_true]
  exact ⟨by rw [ready_eq]; exact h1, set_of h2⟩
/-- done_'s. -/
theorem done_of (hT : rtab md ops = T) (h : (readyT T.2 l.toList == []) = true) : (Region.ready md ops l == []) = true := by
  subst hT
  rw [ready_eq]
  exact h
/-- What d waits for, as_ bits: told in the table (B), checked in one pass: each bit is a need of d, or a bit of an earlier need's. -/
def upM (B : List Nat) (d : Nat) : List Nat → Nat
  | [] => 0
  | n :: r => (2 ^ n ||| (if n < d then B.getD n 0 else 0)) ||| upM B d r
def waitsOk (T : List (List Nat × List Nat)) (B : List Nat) : Bool := (List.range T.length).all fun d => match T[d]? with
  | some r => (B.getD d 0 ||| upM B d r.1) == upM B d r.1
  | none => false
theorem upM_bit {B : List Nat} {d i : Nat} : ∀ {ns : List Nat}, (upM B d ns).testBit i = true → ∃ n ∈ ns, n = i ∨ (n < d ∧ (B.getD n 0).testBit i = true)
  | [], h => by simp [upM] at h
  | n :: r, h => by
    unfold upM at h
    rw [Nat.testBit_or, Nat.testBit_or, Bool.or_eq_true, Bool.or_eq_true] at h
    rcases h with (h | h) | h
    · rw [Nat.testBit_two_pow] at h
      exact ⟨n, List.mem_cons_self, .inl (by simpa using h)⟩
    · by_cases hn : n < d
      · rw [if_pos hn] at h
        exact ⟨n, List.mem_cons_self, .inr ⟨hn, h⟩⟩
      · rw [if_neg hn] at h
        simp at h
    · obtain ⟨m, hm, h2⟩ := upM_bit h
      exact ⟨m, List.mem_cons_of_mem _ hm, h2⟩
theorem reach_bit {T : List (List Nat × List Nat)} {B : List Nat} (hB : waitsOk T B = true) : ∀ (fuel d : Nat), d < fuel → d < T.length → (B.getD d 0).testBit i = true → reachT T i fuel d = true
  | 0, d, h, _, _ => by omega
  | fuel + 1, d, h, hd, hb => by
    have h1 := List.all_eq_true.1 hB d (List.mem_range.2 hd)
    cases hr : T[d]? with
    | none => rw [hr] at h1; simp at h1
    | some r =>
      rw [hr] at h1
      simp only [beq_iff_eq] at h1
      have h2 : (upM B d r.1).testBit i = true := by rw [← h1, Nat.testBit_or, hb, Bool.true_or]
      obtain ⟨n, hn, h3⟩ := upM_bit h2
      unfold reachT
      rw [hr]
      simp only
      rw [List.any_eq_true]
      refine ⟨n, hn, ?_⟩
      rcases h3 with rfl | ⟨h4, h5⟩
      · simp
      · rw [reach_bit hB fuel n (by omega) (by omega) h5, Bool.or_true]
def lastW (T : List (List Nat × List Nat)) (B : List Nat) (l : List Bool) (ds : List Nat) (i : Nat) : Bool := ds.all fun d => l.getD d true || (decide (d < T.length) && (B.getD d 0).testBit i)
def takeW (T : Bool × List (List Nat × List Nat)) (B : List Nat) (ds : List Nat) (l l' : List Bool) (i : Nat) : Bool := T.1 && freeT T.2 l i && readyAt T.2 l i && closedT T.2 l && lastW T.2 B l ds i && (l.set i true == l')
/-- take_'s, by the bits. -/
theorem take_ofW {B : List Nat} (hT : rtab md ops = T) (hB : waitsOk T.2 B = true) (h : takeW T B ds l.toList l'.toList i = true) : takeB md ops ds l l' i = true := by
  refine take_of hT ?_
  simp only [takeW, takeT, Bool.and_eq_true] at h ⊢
  obtain ⟨⟨⟨⟨⟨h1, h2⟩, h3⟩, h4⟩, h5⟩, h6⟩ := h
  refine ⟨⟨⟨⟨⟨h1, h2⟩, h3⟩, h4⟩, ?_⟩, h6⟩
  unfold lastW at h5
  unfold lastT
  rw [List.all_eq_true] at h5 ⊢
  intro d hd
  have h7 := h5 d hd
  rw [Bool.or_eq_true, Bool.and_eq_true, decide_eq_true_eq] at h7
  rcases h7 with h7 | ⟨h8, h9⟩
  · rw [h7, Bool.true_or]
  · rw [reach_bit hB _ d h8 h8 h9, Bool.or_true]
theorem with_tabW {P : Program} {Q : Exit → Act → World → Prop} {S : World → Prop} {n : Nat} {a : Act} {w : World} {B : List Nat} (hT : rtab md ops = T) (hB : waitsOk T.2 B = true) (h : Aside0 (rtab md ops = T) → Aside0 (waitsOk T.2 B = true) → wpAnyLast P md ops Q S ds n l a w) : wpAnyLast P md ops Q S ds n l a w := h ⟨hT⟩ ⟨hB⟩
end
/-- The operations of a region, by its number. -/
def opsIn : Code → Nat → Option (Array Oper)
  | .region id ops _, k => if id == k then some ops else none
  | .seq a b, k => match opsIn a k with
    | some o => some o
    | none => opsIn b k
  | .cond _ a b, k => match opsIn a k with
    | some o => some o
    | none => opsIn b k
  | .block _ c, k => opsIn c k
  | .loop c, k => opsIn c k
  | .scope c, k => opsIn c k
  | .rangeFunc _ _ a b, k => match opsIn a k with
    | some o => some o
    | none => opsIn b k
  | _, _ => none
def opsOf (f : Func) (k : Nat) : Array Oper := ((f.body.bind fun c => opsIn c k)).getD #[]
end Go.Proofs.YtegpepnmnlockaaDoorW.PrintLast
namespace Go.Proofs.YtegpepnmnlockaaDoorW.PrintWords
open Go.RowKit
namespace Kd
/-- An element with its index: its blocks are those that f gives to it. -/
def tag {α : Type} (f : Nat → Nat) (d : Kd α) : Kd (α × Nat) where
  sz := d.sz
  E := d.E
  K := fun w x cs => d.K w x.1 cs
  M := fun w base ok x cs => d.M w base (fun k => ok k ∧ f k = x.2) x.1 cs
  K_len := fun h => d.K_len h
  K_one := fun h => d.K_one h
  K_below := fun hb h => d.K_below hb h
  K_of_M := fun h => d.K_of_M h
  M_mono := fun hok h => d.M_mono (fun k hk => ⟨hok k hk.1, hk.2⟩) h
  M_bound := fun h => d.M_mono (fun _ hk => ⟨⟨hk.1.1, hk.2⟩, hk.1.2⟩) (d.M_bound h)
  M_move := fun hm h => d.M_move (fun k hk => hm k hk.1) h
  M_lower := fun hb h => d.M_lower hb h
/-- The cells themselves. -/
def raw (sz : Nat) : Kd (List Value) where
  sz := sz
  E := []
  K := fun _ x cs => cs = x ∧ cs.length = sz ∧ ∀ u ∈ cs, u.oneCell' = true
  M := fun _ _ _ x cs => cs = x ∧ cs.length = sz ∧ ∀ u ∈ cs, u.oneCell' = true
  K_len := fun h => h.2.1
  K_one := fun h => h.2.2
  K_below := fun _ h => h
  K_of_M := fun h => h
  M_mono := fun _ h => h
  M_bound := fun h => h
  M_move := fun _ h => h
  M_lower := fun _ h => h
/-- A row of elements (type e) of the call's own, no two of which lead to one block. -/
def S {α : Type} (d : Kd α) (e : Nat) (w : World) (base : Nat) (ok : Nat → Prop) (v : Value) (xs : List α) : Prop := ∃ f, (tag f d).R e w base ok v xs.zipIdx
section
variable {α β : Type} {d : Kd α} {d' : Kd β} {e e' : Nat} {w w1 W : World} {base b : Nat} {ok ok' okv oku : Nat → Prop} {u v : Value} {xs : List α} {ys : List β}
theorem S_nil (d : Kd α) (e : Nat) (w : World) (base : Nat) (ok : Nat → Prop) : S d e w base ok (.slice none 0 0) [] := ⟨fun _ => 0, R_nil _ _ _ _ _⟩
end
section
variable {α β : Type} {d : Kd α} {d' : Kd β} {e e' g : Nat} {w w1 W : World} {base b : Nat} {ok ok' okv oku : Nat → Prop} {u v : Value} {xs : List α} {ys : List β}
end
section
variable {P : Program} {ops : Array Oper} {rest : List Oper} {o : Oper} {a : Act} {Q : Exit → Act → World → Prop} {Kc : Act → World → Prop} {α : Type}
end
/-- Element i is these cells; the others are d's. -/
def gap {α : Type} (f : Nat → Nat) (d : Kd α) (i : Nat) (c : List Value) : Kd (α × Nat) where
  sz := d.sz
  E := d.E
  K := fun w x cs => (x.2 = i → cs = c ∧ cs.length = d.sz ∧ ∀ u ∈ cs, u.oneCell' = true) ∧ (x.2 ≠ i → d.K w x.1 cs)
  M := fun w base ok x cs => (x.2 = i → cs = c ∧ cs.length = d.sz ∧ ∀ u ∈ cs, u.oneCell' = true) ∧ (x.2 ≠ i → d.M w base (fun k => ok k ∧ f k = x.2) x.1 cs)
  K_len := fun {w x cs} h => by
    by_cases hx : x.2 = i
    · exact (h.1 hx).2.1
    · exact d.K_len (h.2 hx)
  K_one := fun {w x cs} h => by
    by_cases hx : x.2 = i
    · exact (h.1 hx).2.2
    · exact d.K_one (h.2 hx)
  K_below := fun hb h => ⟨h.1, fun hx => d.K_below hb (h.2 hx)⟩
  K_of_M := fun h => ⟨h.1, fun hx => d.K_of_M (h.2 hx)⟩
  M_mono := fun hok h => ⟨h.1, fun hx => d.M_mono (fun k hk => ⟨hok k hk.1, hk.2⟩) (h.2 hx)⟩
  M_bound := fun h => ⟨h.1, fun hx => d.M_mono (fun _ hk => ⟨⟨hk.1.1, hk.2⟩, hk.1.2⟩) (d.M_bound (h.2 hx))⟩
  M_move := fun hm h => ⟨h.1, fun hx => d.M_move (fun k hk => hm k hk.1) (h.2 hx)⟩
  M_lower := fun hb h => ⟨h.1, fun hx => d.M_lower hb (h.2 hx)⟩
def H {α : Type} (d : Kd α) (e : Nat) (w : World) (base : Nat) (ok : Nat → Prop) (v : Value) (xs : List α) (i : Int) (oki : Nat → Prop) (c : List Value) : Prop :=
  (∀ k, oki k → ok k) ∧ ∃ f, (gap f d i.toNat c).R e w base (fun k => ok k ∧ ¬ oki k) v xs.zipIdx
section
variable {α β : Type} {d : Kd α} {e e' g n cap : Nat} {w w1 W : World} {base : Nat} {ok ok' oki okp : Nat → Prop} {u v : Value} {xs : List α} {i : Int} {c : List Value}
end
section
variable {P : Program} {ops : Array Oper} {rest : List Oper} {o : Oper} {a : Act} {Q : Exit → Act → World → Prop} {α : Type}
end
end Kd
end Go.Proofs.YtegpepnmnlockaaDoorW.PrintWords
namespace Go.Proofs.YtegpepnmnlockaaDoorW.PrintWords
open Go.RowKit
namespace Kd
/-- What a kind reads lies in the blocks: nothing else of the world is looked at. -/
structure Heap {α : Type} (d : Kd α) : Prop where
  K : ∀ {w w1 : World} {x : α} {cs : List Value}, (∀ k, k < w.heap.size → w1.heap[k]? = w.heap[k]?) → d.K w x cs → d.K w1 x cs
theorem cell_heap {w w1 : World} (hb : ∀ k, k < w.heap.size → w1.heap[k]? = w.heap[k]?) {a : Addr} {v : Value} (h : w.cell? a = some v) : w1.cell? a = some v := by
  have := hb a.block (World.block_lt_of_cell? w a h)
  simpa [World.cell?, this] using h
theorem Heap.C {α : Type} {d : Kd α} (hd : Heap d) {w w1 : World} {A : Option Addr} {n : Nat} {xs : List α} (hb : ∀ k, k < w.heap.size → w1.heap[k]? = w.heap[k]?) (h : d.C w A n xs) : d.C w1 A n xs :=
  ⟨h.1, h.2.1, fun hn => by
    obtain ⟨ad, e, hc⟩ := h.2.2 hn
    refine ⟨ad, e, fun j p hj => ?_⟩
    obtain ⟨c, hs, hr, hcell⟩ := hc j p hj
    exact ⟨c, hs, hd.K hb hr, fun i u hu => cell_heap hb (hcell i u hu)⟩⟩
section
variable {α : Type} {d : Kd α} {e base g n c : Nat} {ok : Nat → Prop} {w w0 W : World} {A : Option Addr} {xs : List α}
end
end Kd
end Go.Proofs.YtegpepnmnlockaaDoorW.PrintWords
namespace Go.Proofs.YtegpepnmnlockaaDoorW.PrintWords
open Go.RowKit
def Kept (w W : World) (S : Nat → Prop) : Prop := w.heap.size ≤ W.heap.size ∧ ∀ i, i < w.heap.size → ¬ S i → W.heap[i]? = w.heap[i]?
section
variable {w W W2 : World} {S S2 S' : Nat → Prop}
theorem Kept.refl (w : World) (S : Nat → Prop) : Kept w w S := ⟨Nat.le_refl _, fun _ _ _ => rfl⟩
theorem Kept.of_below (h : Below w.heap.size w W) (S : Nat → Prop) : Kept w W S := ⟨h.size, fun i hi _ => h.block i hi⟩
theorem Kept.mono (h : Kept w W S) (hs : ∀ k, S k → S' k) : Kept w W S' := ⟨h.1, fun i hi hn => h.2 i hi (fun hk => hn (hs i hk))⟩
theorem Kept.then_ (h : Kept w W S) (k : Kept W W2 S2) (hs : ∀ k, S2 k → S k ∨ w.heap.size ≤ k) : Kept w W2 S :=
  ⟨Nat.le_trans h.1 k.1, fun i hi hn => (k.2 i (Nat.lt_of_lt_of_le hi h.1) (fun h2 => (hs i h2).elim hn (fun h3 => by omega))).trans (h.2 i hi hn)⟩
theorem Kept.below (h : Kept w W S) (hb : Below W.heap.size W W2) : Kept w W2 S := h.then_ (Kept.of_below hb (fun _ => False)) (fun _ hk => hk.elim)
theorem Kept.alloc (h : Kept w W S) (o : Obj) : Kept w (W.alloc o) S := h.below (below_alloc (Below.refl _ _) o)
theorem Kept.drew (h : Kept w W S) : Kept w W.drew S := h
theorem Kept.drewN (h : Kept w W S) (m : Nat) : Kept w (W.drewN m) S := h
theorem Kept.setCell (h : Kept w W S) {p : Addr} (hp : S p.block ∨ w.heap.size ≤ p.block) (u : Value) : Kept w (W.setCell p u) S :=
  h.then_ (S2 := fun k => k = p.block) ⟨by simp [World.setCell], fun i _ hn => Below.heap_setCell W p u i hn⟩ (fun k hk => by rw [hk]; exact hp)
end
namespace Kd
section
variable {α : Type} {d : Kd α} {e base n c : Nat} {ok oki S S2 : Nat → Prop} {w w0 W W1 W2 : World} {v : Value} {A : Option Addr} {xs : List α} {i : Int} {cs : List Value}
end
end Kd
end Go.Proofs.YtegpepnmnlockaaDoorW.PrintWords
namespace Go.Proofs.YtegpepnmnlockaaDoorW.PrintWords
open Go.RowKit
/-- P holds in W and in every world that has W's blocks of ok. -/
def Foot (P : World → Prop) (W : World) (ok : Nat → Prop) : Prop := ∀ W' : World, (∀ k, ok k → k < W.heap.size → W'.heap[k]? = W.heap[k]?) → P W'
theorem heap_lt {W W1 : World} {k : Nat} (h : W1.heap[k]? = W.heap[k]?) (hlt : k < W.heap.size) : k < W1.heap.size := by
  rw [Array.getElem?_eq_getElem hlt] at h
  exact (Array.getElem?_eq_some_iff.1 h).1
namespace Foot
variable {P Q : World → Prop} {W W1 : World} {ok ok' : Nat → Prop}
theorem now (h : Foot P W ok) : P W := h W (fun _ _ _ => rfl)
theorem mono (h : Foot P W ok) (hok : ∀ k, ok k → ok' k) : Foot P W ok' := fun W' hW => h W' (fun k hk hlt => hW k (hok k hk) hlt)
theorem bound (h : Foot P W ok) : Foot P W (fun k => ok k ∧ k < W.heap.size) := fun W' hW => h W' (fun k hk hlt => hW k ⟨hk, hlt⟩ hlt)
theorem step (h : Foot P W ok) (hm : ∀ k, ok k → k < W.heap.size → W1.heap[k]? = W.heap[k]?) : Foot P W1 ok := fun W' hW => h W' (fun k hk hlt => (hW k hk (heap_lt (hm k hk hlt) hlt)).trans (hm k hk hlt))
/-- Moved, and still elder than what is new since W. -/
theorem old (h : Foot P W ok) (hb : Below W.heap.size W W1) : Foot P W1 (fun k => ok k ∧ k < W.heap.size) := (h.bound).step (fun k _ hlt => hb.block k hlt)
end Foot
namespace Kd
/-- A row that is only read: what it leads to lies in ok. -/
def F {α : Type} (d : Kd α) (W : World) (ok : Nat → Prop) (A : Option Addr) (n : Nat) (xs : List α) : Prop := Foot (fun W => d.C W A n xs) W ok
/-- An element's cells: what they lead to lies in ok. -/
def FK {α : Type} (d : Kd α) (W : World) (ok : Nat → Prop) (x : α) (c : List Value) : Prop := Foot (fun W => d.K W x c) W ok
section
variable {α β : Type} {d : Kd α} {e base n n' cc g N : Nat} {ok ok' okp S : Nat → Prop} {w w0 w1 W W1 : World} {A A' : Option Addr} {u v v1 : Value} {xs : List α} {xs' : List β} {d' : Kd β} {x : α} {c : List Value}
theorem F_now (h : F d W ok A n xs) : d.C W A n xs := Foot.now h
theorem F_mono (h : F d W ok A n xs) (hok : ∀ k, ok k → ok' k) : F d W ok' A n xs := Foot.mono h hok
theorem F_step (h : F d W ok A n xs) (hm : ∀ k, ok k → k < W.heap.size → W1.heap[k]? = W.heap[k]?) : F d W1 ok A n xs := Foot.step h hm
theorem F_below (h : F d W ok A n xs) (hb : Below W.heap.size W W1) : F d W1 ok A n xs := F_step h (fun k _ hlt => hb.block k hlt)
theorem F_alloc (h : F d W ok A n xs) (o : Obj) : F d (W.alloc o) ok A n xs := F_below h (below_alloc (Below.refl _ _) o)
theorem F_drewN (h : F d W ok A n xs) (m : Nat) : F d (W.drewN m) ok A n xs := F_below h (pw_below_drewN (Below.refl _ _) m)
theorem F_nil (d : Kd α) (W : World) (ok : Nat → Prop) : F d W ok none ([] : List α).length [] := fun W' _ => C_nil d W'
theorem R_F (h : d.R e W base ok (.slice A n cc) xs) : F d W ok A n xs := fun W' hW => by
  have h2 := R_reads' (R_step h hW)
  rw [h2.1]
  exact h2.2.2
theorem FK_of_M (h : d.M W base ok x c) : FK d W ok x c := fun _ hW => d.K_of_M (M_step h hW)
end
end Kd
end Go.Proofs.YtegpepnmnlockaaDoorW.PrintWords
namespace Go.Proofs.YtegpepnmnlockaaDoorW.PrintWords
open Go.RowKit
namespace Kd
/-- The cells one behind the other, element by element. -/
def chunks (sz : Nat) (n : Nat) (inner : List Value) : List (List Value) := (List.range n).map fun j => (inner.drop (j * sz)).take sz
theorem chunks_length (sz n : Nat) (inner : List Value) : (chunks sz n inner).length = n := by simp [chunks]
theorem chunks_at {sz n : Nat} {inner : List Value} {j : Nat} (hj : j < n) : (chunks sz n inner)[j]? = some ((inner.drop (j * sz)).take sz) := by simp [chunks, hj]
theorem chunks_get {sz n : Nat} {inner : List Value} {j : Nat} {c : List Value} (h : (chunks sz n inner)[j]? = some c) : c = (inner.drop (j * sz)).take sz := by
  have hj : j < n := by have := (List.getElem?_eq_some_iff.1 h).1; rwa [chunks_length] at this
  rw [chunks_at hj] at h
  injection h with h
  exact h.symm
theorem reps_raw {α : Type} {Rr : α → List Value → Prop} {sz : Nat} {xs : List α} {inner : List Value} (h : Reps Rr sz xs inner) (hR : ∀ x c, Rr x c → c.length = sz ∧ ∀ u ∈ c, u.oneCell' = true) : Reps (fun x cs => cs = x ∧ cs.length = sz ∧ ∀ u ∈ cs, u.oneCell' = true) sz (chunks sz xs.length inner) inner := by
  refine ⟨by rw [chunks_length]; exact h.1, fun j p hj => ?_⟩
  have hjl : j < xs.length := by have := (List.getElem?_eq_some_iff.1 hj).1; rwa [chunks_length] at this
  have hp := chunks_get hj
  exact ⟨hp.symm, hR _ _ (h.2 j _ (List.getElem?_eq_getElem hjl))⟩
section
variable {α : Type} {d : Kd α} {e base n cc g : Nat} {ok ok' okp S : Nat → Prop} {w w1 W W1 : World} {A : Option Addr} {u v v1 : Value} {xs : List α} {x : α} {c : List Value}
/-- A row of elements (type e) of the call's own; what the elements lead to is only read, and is not this row. -/
def N {α : Type} (d : Kd α) (e : Nat) (w : World) (base : Nat) (ok : Nat → Prop) (v : Value) (xs : List α) : Prop :=
  (∀ k, v.ownBlock = some k → ok k) ∧ ∃ rows : List (List Value), rows.length = xs.length ∧ (raw d.sz).R e w base (fun k => some k = v.ownBlock) v rows ∧ ∀ (j : Nat) (x : α) (c : List Value), xs[j]? = some x → rows[j]? = some c → FK d w (fun k => ok k ∧ some k ≠ v.ownBlock) x c
theorem R_N (h : d.R e w base ok v xs) : N d e w base ok v xs := by
  obtain ⟨h0, inner, ho, hr⟩ := h
  refine ⟨h0, chunks d.sz xs.length inner, chunks_length _ _ _, ⟨fun k hk => hk.symm, inner, by rw [chunks_length]; exact ho, reps_raw hr (fun x c hp => ⟨d.K_len (d.K_of_M hp), d.K_one (d.K_of_M hp)⟩)⟩, fun j x c hx hc => ?_⟩
  rw [chunks_get hc]
  exact FK_of_M (hr.2 j x hx)
theorem N_nil (d : Kd α) (e : Nat) (w : World) (base : Nat) (ok : Nat → Prop) : N d e w base ok (.slice none 0 0) [] := R_N (R_nil _ _ _ _ _)
end
end Kd
end Go.Proofs.YtegpepnmnlockaaDoorW.PrintWords
namespace Go.Proofs.YtegpepnmnlockaaDoorW.PrintWords
open Go.RowKit
section
variable {P : Program} {d : Nat} {xs ys : Array Value} {f : Field} {fs : List Field} {a b : Value} {r s : Bool} {w : World}
/-- The last field that counts. -/
theorem eqf_last (hn : (f.name == "_") = false) (ha : (part f.type xs f.offset).run P w = .ok a w) (hb : (part f.type ys f.offset).run P w = .ok b w) (he : (Op.equalIn d f.type a b).run P w = .ok r w) : (Op.eqFields d xs ys [f]).run P w = .ok r w := by
  have hn' : f.name ≠ "_" := by simpa using hn
  simp only [Op.eqFields, if_pos hn', Sem.run_bind, ha, hb, he, Result.andThen_ok]
  cases r <;> simp
theorem eqf_cons (hn : (f.name == "_") = false) (ha : (part f.type xs f.offset).run P w = .ok a w) (hb : (part f.type ys f.offset).run P w = .ok b w) (he : (Op.equalIn d f.type a b).run P w = .ok r w) (hr : (Op.eqFields d xs ys fs).run P w = .ok s w) : (Op.eqFields d xs ys (f :: fs)).run P w = .ok (r && s) w := by
  have hn' : f.name ≠ "_" := by simpa using hn
  rw [Op.eqFields]
  simp only [if_pos hn', Sem.run_bind, ha, hb, he, Result.andThen_ok]
  cases r
  · simp
  · simpa using hr
theorem eqA_of {t : TypeId} {fs : Array Field} (hu : P.underlying t = some (.struct fs)) (hp : P.stoodInHeld t = false) (h : (Op.eqFields d xs ys fs.toList).run P w = .ok r w) : (Op.equalIn (d + 1) t (.agg xs) (.agg ys)).run P w = .ok r w := by
  have hf : P.fieldsOf t = fs := by simp [Program.fieldsOf, hu]
  rw [run_equalIn_struct (P := P) w d t xs ys (by rw [hf]; exact hu) hp, hf]
  exact h
end
end Go.Proofs.YtegpepnmnlockaaDoorW.PrintWords
namespace Go.Proofs.YtegpepnmnlockaaDoorW.PrintWords
/-- One cell an element. -/
theorem Reps.one {α : Type} {R : α → List Value → Prop} {ps : List α} {cs : List Value} {p : α} {v : Value} (hp : R p [v]) (h : Reps R 1 ps cs) : Reps R 1 (p :: ps) (v :: cs) := by
  refine ⟨by simp [h.1], fun j q hq => ?_⟩
  cases j with
  | zero =>
    simp only [List.getElem?_cons_zero, Option.some.injEq] at hq
    subst hq
    simpa using hp
  | succ j =>
    simp only [List.getElem?_cons_succ] at hq
    have h1 := h.2 j q hq
    simpa [Nat.mul_one] using h1
/-- More cells an element: told apart by the cells' list. -/
theorem Reps.front {α : Type} {R : α → List Value → Prop} {size : Nat} {ps : List α} {cs c all : List Value} {p : α} (hp : R p c) (hc : c.length = size) (h : Reps R size ps cs) (ha : c ++ cs = all) : Reps R size (p :: ps) all := by
  subst ha
  refine ⟨by rw [List.length_append, hc, h.1, List.length_cons, Nat.succ_mul, Nat.add_comm], fun j q hq => ?_⟩
  cases j with
  | zero =>
    simp only [List.getElem?_cons_zero, Option.some.injEq] at hq
    subst hq
    rw [Nat.zero_mul, List.drop_zero, List.take_append_of_le_length (by omega), List.take_of_length_le (by omega)]
    exact hp
  | succ j =>
    simp only [List.getElem?_cons_succ] at hq
    have h1 := h.2 j q hq
    rw [Nat.succ_mul, List.drop_append, List.drop_of_length_le (by rw [hc]; exact Nat.le_add_left _ _), List.nil_append, hc, Nat.add_sub_cancel]
    exact h1
theorem Reps.c2 {α : Type} {R : α → List Value → Prop} {ps : List α} {cs : List Value} {p : α} {va vb : Value} (hp : R p [va, vb]) (h : Reps R 2 ps cs) : Reps R 2 (p :: ps) (va :: vb :: cs) := Reps.front hp rfl h rfl
theorem Reps.c3 {α : Type} {R : α → List Value → Prop} {ps : List α} {cs : List Value} {p : α} {va vb vc : Value} (hp : R p [va, vb, vc]) (h : Reps R 3 ps cs) : Reps R 3 (p :: ps) (va :: vb :: vc :: cs) := Reps.front hp rfl h rfl
theorem Reps.c4 {α : Type} {R : α → List Value → Prop} {ps : List α} {cs : List Value} {p : α} {va vb vc vd : Value} (hp : R p [va, vb, vc, vd]) (h : Reps R 4 ps cs) : Reps R 4 (p :: ps) (va :: vb :: vc :: vd :: cs) := Reps.front hp rfl h rfl
theorem Reps.c5 {α : Type} {R : α → List Value → Prop} {ps : List α} {cs : List Value} {p : α} {va vb vc vd ve : Value} (hp : R p [va, vb, vc, vd, ve]) (h : Reps R 5 ps cs) : Reps R 5 (p :: ps) (va :: vb :: vc :: vd :: ve :: cs) := Reps.front hp rfl h rfl
theorem Reps.c6 {α : Type} {R : α → List Value → Prop} {ps : List α} {cs : List Value} {p : α} {va vb vc vd ve vf : Value} (hp : R p [va, vb, vc, vd, ve, vf]) (h : Reps R 6 ps cs) : Reps R 6 (p :: ps) (va :: vb :: vc :: vd :: ve :: vf :: cs) := Reps.front hp rfl h rfl
theorem Reps.c7 {α : Type} {R : α → List Value → Prop} {ps : List α} {cs : List Value} {p : α} {va vb vc vd ve vf vg : Value} (hp : R p [va, vb, vc, vd, ve, vf, vg]) (h : Reps R 7 ps cs) : Reps R 7 (p :: ps) (va :: vb :: vc :: vd :: ve :: vf :: vg :: cs) := Reps.front hp rfl h rfl
theorem Reps.c8 {α : Type} {R : α → List Value → Prop} {ps : List α} {cs : List Value} {p : α} {va vb vc vd ve vf vg vh : Value} (hp : R p [va, vb, vc, vd, ve, vf, vg, vh]) (h : Reps R 8 ps cs) : Reps R 8 (p :: ps) (va :: vb :: vc :: vd :: ve :: vf :: vg :: vh :: cs) := Reps.front hp rfl h rfl
theorem Reps.c9 {α : Type} {R : α → List Value → Prop} {ps : List α} {cs : List Value} {p : α} {va vb vc vd ve vf vg vh vi : Value} (hp : R p [va, vb, vc, vd, ve, vf, vg, vh, vi]) (h : Reps R 9 ps cs) : Reps R 9 (p :: ps) (va :: vb :: vc :: vd :: ve :: vf :: vg :: vh :: vi :: cs) := Reps.front hp rfl h rfl
theorem Reps.c10 {α : Type} {R : α → List Value → Prop} {ps : List α} {cs : List Value} {p : α} {va vb vc vd ve vf vg vh vi vj : Value} (hp : R p [va, vb, vc, vd, ve, vf, vg, vh, vi, vj]) (h : Reps R 10 ps cs) : Reps R 10 (p :: ps) (va :: vb :: vc :: vd :: ve :: vf :: vg :: vh :: vi :: vj :: cs) := Reps.front hp rfl h rfl
end Go.Proofs.YtegpepnmnlockaaDoorW.PrintWords
namespace Go.Proofs.YtegpepnmnlockaaDoorW.PrintLast
/-- Number i is listed too. -/
def up (b : Nat → Bool) (i : Nat) : Nat → Bool := fun j => if j = i then true else b j
section
variable {P : Program} {ops : Array Oper} {Q : Exit → Act → World → Prop} {md : Region.Mode} {T : Bool × List (List Nat × List Nat)} {B : List Nat} {O : List Nat} {b : Nat → Bool} {i j n : Nat}
end
end Go.Proofs.YtegpepnmnlockaaDoorW.PrintLast
namespace Go.Proofs.YtegpepnmnlockaaDoorW.PrintWords
open Go.RowKit
section
variable {P : Program} {ops : Array Oper} {rest : List Oper} {o : Oper} {a : Act} {Q : Exit → Act → World → Prop} {W : World}
/-- The gate takes the guard off (hw: 'by rfl', 'by kernel_rfl': the guard's slot holds what is wanted). -/
theorem gate_guard (hw : Region.wanted o (yielded ops a.tmps) = true) (h : wpList P ops Q ({ o with guard := none } :: rest) a W) : wpList P ops Q (o :: rest) a W := by
  have h1 : Region.wanted { o with guard := none } (yielded ops a.tmps) = true := rfl
  unfold wpList at h ⊢
  rw [if_pos h1] at h
  rw [if_pos hw]
  exact h
end
end Go.Proofs.YtegpepnmnlockaaDoorW.PrintWords
namespace Go.Proofs.YtegpepnmnlockaaDoorW.PrintMore
open Go.RowKit Go.Proofs.YtegpepnmnlockaaDoorW.PrintWords
namespace Kd
open Go.Proofs.YtegpepnmnlockaaDoorW.PrintWords.Kd
end Kd
namespace Kd
open Go.Proofs.YtegpepnmnlockaaDoorW.PrintWords.Kd
section
variable {α : Type} {d : Kd α} {e base g N : Nat} {ok : Nat → Prop} {W w1 : World} {u v : Value} {xs : List α}
end
end Kd
/-- 'max' and 'min' of two whole numbers. -/
theorem max2_int (k k' : IntKind) (x y : Int) : Builtin.max2 (.int k x) (.int k' y) = pure (.int k (if x < y then y else x)) := by simp only [Builtin.max2, gt_iff_lt]
theorem min2_int (k k' : IntKind) (x y : Int) : Builtin.min2 (.int k x) (.int k' y) = pure (.int k (if y < x then y else x)) := by simp only [Builtin.min2]
theorem max_two (ats : Array TypeId) (ty : TypeId) (a b : Value) : Builtin.max_ ats ty #[a, b] = (Builtin.max2 a b >>= fun s => pure s) := by simp only [Builtin.max_, List.foldlM_cons, List.foldlM_nil]
theorem min_two (ats : Array TypeId) (ty : TypeId) (a b : Value) : Builtin.min_ ats ty #[a, b] = (Builtin.min2 a b >>= fun s => pure s) := by simp only [Builtin.min_, List.foldlM_cons, List.foldlM_nil]
theorem max_three (ats : Array TypeId) (ty : TypeId) (a b c : Value) : Builtin.max_ ats ty #[a, b, c] = (Builtin.max2 a b >>= fun s => Builtin.max2 s c >>= fun s => pure s) := by simp only [Builtin.max_, List.foldlM_cons, List.foldlM_nil]
theorem min_three (ats : Array TypeId) (ty : TypeId) (a b c : Value) : Builtin.min_ ats ty #[a, b, c] = (Builtin.min2 a b >>= fun s => Builtin.min2 s c >>= fun s => pure s) := by simp only [Builtin.min_, List.foldlM_cons, List.foldlM_nil]
theorem max_four (ats : Array TypeId) (ty : TypeId) (a b c d : Value) : Builtin.max_ ats ty #[a, b, c, d] = (Builtin.max2 a b >>= fun s => Builtin.max2 s c >>= fun s => Builtin.max2 s d >>= fun s => pure s) := by simp only [Builtin.max_, List.foldlM_cons, List.foldlM_nil]
theorem min_four (ats : Array TypeId) (ty : TypeId) (a b c d : Value) : Builtin.min_ ats ty #[a, b, c, d] = (Builtin.min2 a b >>= fun s => Builtin.min2 s c >>= fun s => Builtin.min2 s d >>= fun s => pure s) := by simp only [Builtin.min_, List.foldlM_cons, List.foldlM_nil]
end Go.Proofs.YtegpepnmnlockaaDoorW.PrintMore
namespace Go.Proofs.YtegpepnmnlockaaDoorW.PrintWords
open Go.RowKit
section
variable {P : Program} {ops : Array Oper} {rest : List Oper} {o : Oper} {a : Act} {Q : Exit → Act → World → Prop} {W : World}
/-- The operation is a call of this function (a cheap look ahead of a dear step). -/
theorem gate_callee {f : FuncId} {«as» : Array Operand} {ts : Array TypeId} (_ho : o.op = .call { callee := .value (.func f), args := «as», argTypes := ts }) (h : wpList P ops Q (o :: rest) a W) : wpList P ops Q (o :: rest) a W := h
end
/-- The greater of two whole numbers, as Go's max tells it. -/
def mx (a b : Int) : Int := if a < b then b else a
/-- The smaller of two whole numbers, as Go's min tells it. -/
def mn (a b : Int) : Int := if b < a then b else a
namespace Kd
section
variable {α : Type} {d : Kd α} {e base : Nat} {ok : Nat → Prop} {W w1 : World} {v : Value} {xs : List α}
end
section
variable {α : Type} {d : Kd α} {e base g n cap : Nat} {ok oki okp : Nat → Prop} {W : World} {xs : List α} {i : Int} {c : List Value}
end
section
variable {α : Type} {d : Kd α} {e base b b' g N : Nat} {ok ok1 : Nat → Prop} {W W2 w1 : World} {u v : Value} {xs ys : List α} {S : Nat → Prop}
end
end Kd
end Go.Proofs.YtegpepnmnlockaaDoorW.PrintWords
namespace Go.Proofs.YtegpepnmnlockaaDoorW.PrintWords
open Go.RowKit
namespace Kd
/-- A row that is only read, told by its value: its form, its length, what it leads to (in ok). e and base say nothing; they make it as the others are. -/
def V {α : Type} (d : Kd α) (_e : Nat) (W : World) (_base : Nat) (ok : Nat → Prop) (v : Value) (xs : List α) : Prop := ∃ A c, v = .slice A xs.length c ∧ xs.length ≤ c ∧ F d W ok A xs.length xs
section
variable {α β : Type} {d : Kd α} {e base base' n m c g N' lo hi : Nat} {ok ok' S : Nat → Prop} {w W w1 : World} {A : Option Addr} {ad : Addr} {u v v1 : Value} {xs : List α}
theorem V_map (h : V d e W base ok v xs) (hF : ∀ A, F d W ok A xs.length xs → F d w1 ok' A xs.length xs) : V d e w1 base' ok' v xs := by
  obtain ⟨A, c, hv, hl, hf⟩ := h
  exact ⟨A, c, hv, hl, hF A hf⟩
theorem V_mk (hl : xs.length ≤ c) (hf : F d W ok A xs.length xs) : V d e W base ok (.slice A xs.length c) xs := ⟨A, c, rfl, hl, hf⟩
theorem V_slice (h : V d e W base ok v xs) : ∃ A c, v = .slice A xs.length c := by
  obtain ⟨A, c, hv, _⟩ := h
  exact ⟨A, c, hv⟩
theorem V_at (h : V d e W base ok (.slice A n c) xs) : n = xs.length ∧ n ≤ c ∧ F d W ok A xs.length xs := by
  obtain ⟨A', c', hv, hl, hf⟩ := h
  injection hv with ha hn hc
  subst ha; subst hc
  exact ⟨hn, by rw [hn]; exact hl, hf⟩
theorem V_reads' (h : V d e W base ok (.slice A n c) xs) : n = xs.length ∧ n ≤ c ∧ d.C W A xs.length xs := ⟨(V_at h).1, (V_at h).2.1, F_now (V_at h).2.2⟩
theorem V_nil (d : Kd α) (e : Nat) (W : World) (base : Nat) (ok : Nat → Prop) : V d e W base ok (.slice none 0 0) [] := ⟨none, 0, rfl, Nat.le_refl _, F_nil d W ok⟩
theorem R_V (h : d.R e W base ok v xs) : V d e W base' ok v xs := by
  obtain ⟨A, c, rfl⟩ := R_slice h
  exact ⟨A, c, rfl, (R_reads' h).2.1, R_F h⟩
theorem V_mono (h : V d e W base ok v xs) (hok : ∀ k, ok k → ok' k) : V d e W base ok' v xs := V_map h (fun _ hf => F_mono hf hok)
theorem V_below (h : V d e W base ok v xs) (hb : Below W.heap.size W w1) : V d e w1 base ok v xs := V_map h (fun _ hf => F_below hf hb)
theorem V_alloc (h : V d e W base ok v xs) (o : Obj) : V d e (W.alloc o) base ok v xs := V_map h (fun _ hf => F_alloc hf o)
theorem V_drewN (h : V d e W base ok v xs) (m : Nat) : V d e (W.drewN m) base ok v xs := V_map h (fun _ hf => F_drewN hf m)
end
end Kd
end Go.Proofs.YtegpepnmnlockaaDoorW.PrintWords
namespace Go.Proofs.YtegpepnmnlockaaDoor.PL
open Go.RowKit Go.Proofs.YtegpepnmnlockaaDoorW.PrintWords Go.Proofs.YtegpepnmnlockaaDoorW.PrintLast Go.Proofs.YtegpepnmnlockaaDoorW.PrintMore
attribute [local go_sem] max2_int min2_int max_two min_two max_three min_three max_four min_four   -- for this text's walks alone
set_option linter.unusedVariables false
set_option linter.unusedSimpArgs false
def errW : Option Int → Value
  | none => .nilIface
  | some c => .iface 0 (.int .i64 c)
theorem errW_none : errW none = .nilIface := rfl
theorem errW_some (c : Int) : errW (some c) = .iface 0 (.int .i64 c) := rfl
theorem info3 : (Tryd.prog.info? 3).map (fun i => (i.zero, i.size, i.bytes)) = some (some (.int .i64 0), 1, 8) := by kernel_rfl
theorem info49 : (Tryd.prog.info? 49).map (fun i => (i.zero, i.size, i.bytes)) = some (some (.agg #[(.int .i64 0), (.int .i64 0), (.int .i64 0), (.int .i64 0)]), 4, 32) := by kernel_rfl
theorem info57 : (Tryd.prog.info? 57).map (fun i => (i.zero, i.size, i.bytes)) = some (some (.agg #[(.int .i64 0), (.int .i64 0), (.int .i64 0), (.int .i64 0), (.int .i64 0)]), 5, 40) := by kernel_rfl
theorem info59 : (Tryd.prog.info? 59).map (fun i => (i.zero, i.size, i.bytes)) = some (some (.agg #[(.int .i64 0), (.int .i64 0)]), 2, 16) := by kernel_rfl
structure S47 where
  f0 : Int
  f1 : Int
  f2 : Int
  f3 : Int
  f4 : Int
def z47 : S47 := ⟨(0 : Int), (0 : Int), (0 : Int), (0 : Int), (0 : Int)⟩
def k47 : Kd S47 := Kd.iso (Kd.pair (Kd.int .i64) (Kd.pair (Kd.int .i64) (Kd.pair (Kd.int .i64) (Kd.pair (Kd.int .i64) (Kd.int .i64))))) (fun x : S47 => (x.f0, x.f1, x.f2, x.f3, x.f4))
theorem k47_open {w : World} {x : S47} {cs : List Value} (h : k47.K w x cs) : cs = [.int .i64 x.f0, .int .i64 x.f1, .int .i64 x.f2, .int .i64 x.f3, .int .i64 x.f4] := by
  obtain ⟨_, _, rfl, rfl, ⟨_, _, rfl, rfl, ⟨_, _, rfl, rfl, ⟨_, _, rfl, rfl, rfl⟩⟩⟩⟩ := h
  exact rfl
theorem k47_mkM (w : World) (base : Nat) (ok : Nat → Prop) (x : S47)  : k47.M w base ok x [.int .i64 x.f0, .int .i64 x.f1, .int .i64 x.f2, .int .i64 x.f3, .int .i64 x.f4] := ⟨[.int .i64 x.f0], [.int .i64 x.f1, .int .i64 x.f2, .int .i64 x.f3, .int .i64 x.f4], rfl, rfl, ⟨[.int .i64 x.f1], [.int .i64 x.f2, .int .i64 x.f3, .int .i64 x.f4], rfl, rfl, ⟨[.int .i64 x.f2], [.int .i64 x.f3, .int .i64 x.f4], rfl, rfl, ⟨[.int .i64 x.f3], [.int .i64 x.f4], rfl, rfl, rfl⟩⟩⟩⟩
def rd_T47 (xs : List S47) (i : Int) : S47 := xs.getD i.toNat z47
theorem at_T47 {w : World} {A : Option Addr} {n : Nat} {xs : List S47} (h : Kd.C k47 w A n xs) (i : Int) (h0 : 0 ≤ i) (h1 : i < n) : ∃ ad , A = some ad ∧ w.cell? (ad.add (i.toNat * 5)) = some (.int .i64 (rd_T47 xs i).f0) ∧ w.cell? ⟨(ad.add (i.toNat * 5)).block, (ad.add (i.toNat * 5)).off + 1, none⟩ = some (.int .i64 (rd_T47 xs i).f1) ∧ w.cell? ⟨(ad.add (i.toNat * 5)).block, (ad.add (i.toNat * 5)).off + 2, none⟩ = some (.int .i64 (rd_T47 xs i).f2) ∧ w.cell? ⟨(ad.add (i.toNat * 5)).block, (ad.add (i.toNat * 5)).off + 3, none⟩ = some (.int .i64 (rd_T47 xs i).f3) ∧ w.cell? ⟨(ad.add (i.toNat * 5)).block, (ad.add (i.toNat * 5)).off + 4, none⟩ = some (.int .i64 (rd_T47 xs i).f4) := by
  obtain ⟨ad, c, e, _, hK, hc0⟩ := Kd.C_get h z47 i h0 h1
  have hc : ∀ j u, c[j]? = some u → w.cell? (ad.add (i.toNat * 5 + j)) = some u := hc0
  obtain rfl := k47_open hK
  exact ⟨ad, e, hc 0 _ rfl, by rw [← add_field _ _ 1 (by omega)]; exact hc 1 _ rfl, by rw [← add_field _ _ 2 (by omega)]; exact hc 2 _ rfl, by rw [← add_field _ _ 3 (by omega)]; exact hc 3 _ rfl, by rw [← add_field _ _ 4 (by omega)]; exact hc 4 _ rfl⟩
structure S55 where
  f0 : Int
  f1 : Int
def z55 : S55 := ⟨(0 : Int), (0 : Int)⟩
def k55 : Kd S55 := Kd.iso (Kd.pair (Kd.int .i64) (Kd.int .i64)) (fun x : S55 => (x.f0, x.f1))
theorem k55_open {w : World} {x : S55} {cs : List Value} (h : k55.K w x cs) : cs = [.int .i64 x.f0, .int .i64 x.f1] := by
  obtain ⟨_, _, rfl, rfl, rfl⟩ := h
  exact rfl
theorem k55_mkM (w : World) (base : Nat) (ok : Nat → Prop) (x : S55)  : k55.M w base ok x [.int .i64 x.f0, .int .i64 x.f1] := ⟨[.int .i64 x.f0], [.int .i64 x.f1], rfl, rfl, rfl⟩
structure S57 where
  f0 : Int
  f1 : S55
  f2 : S55
def z57 : S57 := ⟨(0 : Int), z55, z55⟩
def k57 : Kd S57 := Kd.iso (Kd.pair (Kd.int .i64) (Kd.pair k55 k55)) (fun x : S57 => (x.f0, x.f1, x.f2))
theorem k57_open {w : World} {x : S57} {cs : List Value} (h : k57.K w x cs) : cs = [.int .i64 x.f0, .int .i64 x.f1.f0, .int .i64 x.f1.f1, .int .i64 x.f2.f0, .int .i64 x.f2.f1] := by
  obtain ⟨_, _, rfl, rfl, ⟨_, _, rfl, s1, s3⟩⟩ := h
  obtain rfl := k55_open s1
  obtain rfl := k55_open s3
  exact rfl
theorem k57_mkM (w : World) (base : Nat) (ok : Nat → Prop) (x : S57)  : k57.M w base ok x [.int .i64 x.f0, .int .i64 x.f1.f0, .int .i64 x.f1.f1, .int .i64 x.f2.f0, .int .i64 x.f2.f1] := ⟨[.int .i64 x.f0], [.int .i64 x.f1.f0, .int .i64 x.f1.f1, .int .i64 x.f2.f0, .int .i64 x.f2.f1], rfl, rfl, ⟨[.int .i64 x.f1.f0, .int .i64 x.f1.f1], [.int .i64 x.f2.f0, .int .i64 x.f2.f1], rfl, (k55_mkM w base ok x.f1 ), (k55_mkM w base ok x.f2 )⟩⟩
def rd_T57 (xs : List S57) (i : Int) : S57 := xs.getD i.toNat z57
theorem at_T57 {w : World} {A : Option Addr} {n : Nat} {xs : List S57} (h : Kd.C k57 w A n xs) (i : Int) (h0 : 0 ≤ i) (h1 : i < n) : ∃ ad , A = some ad ∧ w.cell? (ad.add (i.toNat * 5)) = some (.int .i64 (rd_T57 xs i).f0) ∧ w.cell? ⟨(ad.add (i.toNat * 5)).block, (ad.add (i.toNat * 5)).off + 1, none⟩ = some (.int .i64 (rd_T57 xs i).f1.f0) ∧ w.cell? ⟨(ad.add (i.toNat * 5)).block, (ad.add (i.toNat * 5)).off + 2, none⟩ = some (.int .i64 (rd_T57 xs i).f1.f1) ∧ w.cell? ⟨(ad.add (i.toNat * 5)).block, (ad.add (i.toNat * 5)).off + 3, none⟩ = some (.int .i64 (rd_T57 xs i).f2.f0) ∧ w.cell? ⟨(ad.add (i.toNat * 5)).block, (ad.add (i.toNat * 5)).off + 4, none⟩ = some (.int .i64 (rd_T57 xs i).f2.f1) := by
  obtain ⟨ad, c, e, _, hK, hc0⟩ := Kd.C_get h z57 i h0 h1
  have hc : ∀ j u, c[j]? = some u → w.cell? (ad.add (i.toNat * 5 + j)) = some u := hc0
  obtain rfl := k57_open hK
  exact ⟨ad, e, hc 0 _ rfl, by rw [← add_field _ _ 1 (by omega)]; exact hc 1 _ rfl, by rw [← add_field _ _ 2 (by omega)]; exact hc 2 _ rfl, by rw [← add_field _ _ 3 (by omega)]; exact hc 3 _ rfl, by rw [← add_field _ _ 4 (by omega)]; exact hc 4 _ rfl⟩
structure S26 where
  f0 : (List Int)
  f1 : (List S47)
  f2 : (List S57)
def k26 : Kd S26 := Kd.iso (Kd.pair (Kd.slice 3 (Kd.int .i64)) (Kd.pair (Kd.slice 47 k47) (Kd.slice 57 k57))) (fun x : S26 => (x.f0, x.f1, x.f2))
theorem k26_open {w : World} {x : S26} {cs : List Value} (h : k26.K w x cs) : ∃ A0 c0 A1 c1 A2 c2, cs = [.slice A0 x.f0.length c0, .slice A1 x.f1.length c1, .slice A2 x.f2.length c2] ∧ x.f0.length ≤ c0 ∧ (Kd.int .i64).C w A0 x.f0.length x.f0 ∧ x.f1.length ≤ c1 ∧ k47.C w A1 x.f1.length x.f1 ∧ x.f2.length ≤ c2 ∧ k57.C w A2 x.f2.length x.f2 := by
  obtain ⟨_, _, rfl, ⟨A0, c0, rfl, l0, g0⟩, ⟨_, _, rfl, ⟨A1, c1, rfl, l1, g1⟩, ⟨A2, c2, rfl, l2, g2⟩⟩⟩ := h
  exact ⟨A0, c0, A1, c1, A2, c2, rfl, l0, g0, l1, g1, l2, g2⟩
structure S49 where
  f0 : Int
  f1 : Int
  f2 : Int
  f3 : Int
def z49 : S49 := ⟨(0 : Int), (0 : Int), (0 : Int), (0 : Int)⟩
def k49 : Kd S49 := Kd.iso (Kd.pair (Kd.int .i64) (Kd.pair (Kd.int .i64) (Kd.pair (Kd.int .i64) (Kd.int .i64)))) (fun x : S49 => (x.f0, x.f1, x.f2, x.f3))
theorem k49_open {w : World} {x : S49} {cs : List Value} (h : k49.K w x cs) : cs = [.int .i64 x.f0, .int .i64 x.f1, .int .i64 x.f2, .int .i64 x.f3] := by
  obtain ⟨_, _, rfl, rfl, ⟨_, _, rfl, rfl, ⟨_, _, rfl, rfl, rfl⟩⟩⟩ := h
  exact rfl
theorem k49_mkM (w : World) (base : Nat) (ok : Nat → Prop) (x : S49)  : k49.M w base ok x [.int .i64 x.f0, .int .i64 x.f1, .int .i64 x.f2, .int .i64 x.f3] := ⟨[.int .i64 x.f0], [.int .i64 x.f1, .int .i64 x.f2, .int .i64 x.f3], rfl, rfl, ⟨[.int .i64 x.f1], [.int .i64 x.f2, .int .i64 x.f3], rfl, rfl, ⟨[.int .i64 x.f2], [.int .i64 x.f3], rfl, rfl, rfl⟩⟩⟩
def rd_T49 (xs : List S49) (i : Int) : S49 := xs.getD i.toNat z49
theorem at_T49 {w : World} {A : Option Addr} {n : Nat} {xs : List S49} (h : Kd.C k49 w A n xs) (i : Int) (h0 : 0 ≤ i) (h1 : i < n) : ∃ ad , A = some ad ∧ w.cell? (ad.add (i.toNat * 4)) = some (.int .i64 (rd_T49 xs i).f0) ∧ w.cell? ⟨(ad.add (i.toNat * 4)).block, (ad.add (i.toNat * 4)).off + 1, none⟩ = some (.int .i64 (rd_T49 xs i).f1) ∧ w.cell? ⟨(ad.add (i.toNat * 4)).block, (ad.add (i.toNat * 4)).off + 2, none⟩ = some (.int .i64 (rd_T49 xs i).f2) ∧ w.cell? ⟨(ad.add (i.toNat * 4)).block, (ad.add (i.toNat * 4)).off + 3, none⟩ = some (.int .i64 (rd_T49 xs i).f3) := by
  obtain ⟨ad, c, e, _, hK, hc0⟩ := Kd.C_get h z49 i h0 h1
  have hc : ∀ j u, c[j]? = some u → w.cell? (ad.add (i.toNat * 4 + j)) = some u := hc0
  obtain rfl := k49_open hK
  exact ⟨ad, e, hc 0 _ rfl, by rw [← add_field _ _ 1 (by omega)]; exact hc 1 _ rfl, by rw [← add_field _ _ 2 (by omega)]; exact hc 2 _ rfl, by rw [← add_field _ _ 3 (by omega)]; exact hc 3 _ rfl⟩
structure S59 where
  f0 : Int
  f1 : Int
def z59 : S59 := ⟨(0 : Int), (0 : Int)⟩
def k59 : Kd S59 := Kd.iso (Kd.pair (Kd.int .i64) (Kd.int .i64)) (fun x : S59 => (x.f0, x.f1))
theorem k59_open {w : World} {x : S59} {cs : List Value} (h : k59.K w x cs) : cs = [.int .i64 x.f0, .int .i64 x.f1] := by
  obtain ⟨_, _, rfl, rfl, rfl⟩ := h
  exact rfl
theorem k59_mkM (w : World) (base : Nat) (ok : Nat → Prop) (x : S59)  : k59.M w base ok x [.int .i64 x.f0, .int .i64 x.f1] := ⟨[.int .i64 x.f0], [.int .i64 x.f1], rfl, rfl, rfl⟩
def rd_T59 (xs : List S59) (i : Int) : S59 := xs.getD i.toNat z59
theorem at_T59 {w : World} {A : Option Addr} {n : Nat} {xs : List S59} (h : Kd.C k59 w A n xs) (i : Int) (h0 : 0 ≤ i) (h1 : i < n) : ∃ ad , A = some ad ∧ w.cell? (ad.add (i.toNat * 2)) = some (.int .i64 (rd_T59 xs i).f0) ∧ w.cell? ⟨(ad.add (i.toNat * 2)).block, (ad.add (i.toNat * 2)).off + 1, none⟩ = some (.int .i64 (rd_T59 xs i).f1) := by
  obtain ⟨ad, c, e, _, hK, hc0⟩ := Kd.C_get h z59 i h0 h1
  have hc : ∀ j u, c[j]? = some u → w.cell? (ad.add (i.toNat * 2 + j)) = some u := hc0
  obtain rfl := k59_open hK
  exact ⟨ad, e, hc 0 _ rfl, by rw [← add_field _ _ 1 (by omega)]; exact hc 1 _ rfl⟩
end Go.Proofs.YtegpepnmnlockaaDoor.PL
namespace Go.Proofs.YtegpepnmnlockaaDoor.PL
open Go.RowKit Go.Proofs.YtegpepnmnlockaaDoorW.PrintWords Go.Proofs.YtegpepnmnlockaaDoorW.PrintLast Go.Proofs.YtegpepnmnlockaaDoorW.PrintMore
attribute [local go_sem] max2_int min2_int max_two min_two max_three min_three max_four min_four   -- for this text's walks alone
set_option linter.unusedVariables false
set_option linter.unusedSimpArgs false
def lack_within.f (a0 : Int) (a1 : Int) (a2 : Int) : Option (Bool) := if a1 ≤ a0 then (some (decide (a0 ≤ a2))) else (some false)
set_option maxHeartbeats 8000000 in
set_option maxRecDepth 100000 in
theorem lack_within.calls (a0 : Int) (a1 : Int) (a2 : Int) (r : Bool) (w : World) (h : lack_within.f a0 a1 a2 = some r) :
    Calls Tryd.prog 50 #[.int .i64 a0, .int .i64 a1, .int .i64 a2] w fun e w' => e = .returned (.bool r) ∧ Drawn0 w w' := by
  have H : (if a1 ≤ a0 then (some (decide (a0 ≤ a2))) else (some false)) = some r := h
  clear h
  by_cases c4 : a1 ≤ a0
  · rw [if_pos c4] at H
    have c4b0 : decide (a1 ≤ a0) = true := decide_eq_true c4
    clear c4
    obtain rfl := Option.some.inj H
    go_enter Tryd.func50, Tryd.ntmps50
    go_wp2
    go_ret
    exact ⟨by first | rfl | (simp; done) | (simp [*]; done), by repeat (first | exact Drawn0.refl _ | apply Drawn0.step)⟩
  · rw [if_neg c4] at H
    have c4b0 : decide (a1 ≤ a0) = false := decide_eq_false c4
    clear c4
    obtain rfl := Option.some.inj H
    go_enter Tryd.func50, Tryd.ntmps50
    go_wp2
    go_ret
    exact ⟨by first | rfl | (simp; done) | (simp [*]; done), by repeat (first | exact Drawn0.refl _ | apply Drawn0.step)⟩
def lack_isSpan.f (a0_0 : Int) (a0_1 : Int) (a1 : Int) (a2 : Int) : Option (Bool) := if a1 ≤ a0_0 then (if a0_0 ≤ a0_1 then (some (decide (a0_1 ≤ a2))) else (some false)) else (some false)
set_option maxHeartbeats 8000000 in
set_option maxRecDepth 100000 in
theorem lack_isSpan.calls (a0_0 : Int) (a0_1 : Int) (a1 : Int) (a2 : Int) (r : Bool) (w : World) (h : lack_isSpan.f a0_0 a0_1 a1 a2 = some r) :
    Calls Tryd.prog 69 #[.agg #[.int .i64 a0_0, .int .i64 a0_1], .int .i64 a1, .int .i64 a2] w fun e w' => e = .returned (.bool r) ∧ Below w.heap.size w w' := by
  have hu55 := Tryd.underlying55
  have HB := Aside0.mk (Below.refl w.heap.size w)
  have H : (if a1 ≤ a0_0 then (if a0_0 ≤ a0_1 then (some (decide (a0_1 ≤ a2))) else (some false)) else (some false)) = some r := h
  clear h
  by_cases c4 : a1 ≤ a0_0
  · rw [if_pos c4] at H
    have c4b0 : decide (a1 ≤ a0_0) = true := decide_eq_true c4
    clear c4
    by_cases c5 : a0_0 ≤ a0_1
    · rw [if_pos c5] at H
      have c5b0 : decide (a0_0 ≤ a0_1) = true := decide_eq_true c5
      clear c5
      obtain rfl := Option.some.inj H
      go_enter Tryd.func69, Tryd.ntmps69
      go_wp2_with (first | ((with_reducible refine gate_dst (N := 3) rfl ?_); refine box_event ?hg (N := 3) ?hd (cs := #[.int .i64 a0_0, .int .i64 a0_1]) (t := 55) ?hr ?_; (case hd => rfl); (case hg => rfl); (case hr => first | (go_simp; done) | (go_simp; rfl)); intro gb101 hg w6 hbox hb; have n0_ := Aside0.mk (below_step (by repeat (first | (with_reducible first | exact HB.out | apply below_alloc | apply pw_below_drewN | apply below_drew1) | exact HB.out)) hb); have n1_ := Aside0.mk (hbox); have n2_ := Aside0.mk ((by rw [hg]; exact (below_size (by repeat (first | (with_reducible first | exact HB.out | apply below_alloc | apply pw_below_drewN | apply below_drew1) | exact HB.out))) : w.heap.size ≤ gb101)); have n3_ := Aside0.mk ((by rw [hg]; exact (below_size (by repeat (first | (with_reducible first | exact HB.out | apply below_alloc | apply pw_below_drewN | apply below_drew1) | exact HB.out))) : w.heap.size ≤ gb101)); clear HB; have HB := n0_; have BK101 := n1_; have GW101 := n2_; have GE101 := n3_; clear n0_ n1_ n2_ n3_; clear hb hbox hg; have hcz7_0 : w6.cell? ⟨gb101, 0, none⟩ = some (.int .i64 a0_0) := (blk_cell BK101.out 0).trans rfl; have hcz7_1 : w6.cell? ⟨gb101, 1, none⟩ = some (.int .i64 a0_1) := (blk_cell BK101.out 1).trans rfl; have hfz7_0 := blk_frozen BK101.out 0; have hfz7_1 := blk_frozen BK101.out 1))
      go_ret
      exact ⟨by first | rfl | (simp [errW_none, errW_some] <;> rfl) | (simp [*, errW_none, errW_some] <;> rfl), by repeat (first | (with_reducible first | exact HB.out | apply below_alloc | apply pw_below_drewN | apply below_drew1 | refine below_set ?_ GE101.out) | exact HB.out)⟩
    · rw [if_neg c5] at H
      have c5b0 : decide (a0_0 ≤ a0_1) = false := decide_eq_false c5
      clear c5
      obtain rfl := Option.some.inj H
      go_enter Tryd.func69, Tryd.ntmps69
      go_wp2_with (first | ((with_reducible refine gate_dst (N := 3) rfl ?_); refine box_event ?hg (N := 3) ?hd (cs := #[.int .i64 a0_0, .int .i64 a0_1]) (t := 55) ?hr ?_; (case hd => rfl); (case hg => rfl); (case hr => first | (go_simp; done) | (go_simp; rfl)); intro gb101 hg w8 hbox hb; have n0_ := Aside0.mk (below_step (by repeat (first | (with_reducible first | exact HB.out | apply below_alloc | apply pw_below_drewN | apply below_drew1) | exact HB.out)) hb); have n1_ := Aside0.mk (hbox); have n2_ := Aside0.mk ((by rw [hg]; exact (below_size (by repeat (first | (with_reducible first | exact HB.out | apply below_alloc | apply pw_below_drewN | apply below_drew1) | exact HB.out))) : w.heap.size ≤ gb101)); have n3_ := Aside0.mk ((by rw [hg]; exact (below_size (by repeat (first | (with_reducible first | exact HB.out | apply below_alloc | apply pw_below_drewN | apply below_drew1) | exact HB.out))) : w.heap.size ≤ gb101)); clear HB; have HB := n0_; have BK101 := n1_; have GW101 := n2_; have GE101 := n3_; clear n0_ n1_ n2_ n3_; clear hb hbox hg; have hcz9_0 : w8.cell? ⟨gb101, 0, none⟩ = some (.int .i64 a0_0) := (blk_cell BK101.out 0).trans rfl; have hcz9_1 : w8.cell? ⟨gb101, 1, none⟩ = some (.int .i64 a0_1) := (blk_cell BK101.out 1).trans rfl; have hfz9_0 := blk_frozen BK101.out 0; have hfz9_1 := blk_frozen BK101.out 1))
      go_ret
      exact ⟨by first | rfl | (simp [errW_none, errW_some] <;> rfl) | (simp [*, errW_none, errW_some] <;> rfl), by repeat (first | (with_reducible first | exact HB.out | apply below_alloc | apply pw_below_drewN | apply below_drew1 | refine below_set ?_ GE101.out) | exact HB.out)⟩
  · rw [if_neg c4] at H
    have c4b0 : decide (a1 ≤ a0_0) = false := decide_eq_false c4
    clear c4
    obtain rfl := Option.some.inj H
    go_enter Tryd.func69, Tryd.ntmps69
    go_wp2_with (first | ((with_reducible refine gate_dst (N := 3) rfl ?_); refine box_event ?hg (N := 3) ?hd (cs := #[.int .i64 a0_0, .int .i64 a0_1]) (t := 55) ?hr ?_; (case hd => rfl); (case hg => rfl); (case hr => first | (go_simp; done) | (go_simp; rfl)); intro gb101 hg w10 hbox hb; have n0_ := Aside0.mk (below_step (by repeat (first | (with_reducible first | exact HB.out | apply below_alloc | apply pw_below_drewN | apply below_drew1) | exact HB.out)) hb); have n1_ := Aside0.mk (hbox); have n2_ := Aside0.mk ((by rw [hg]; exact (below_size (by repeat (first | (with_reducible first | exact HB.out | apply below_alloc | apply pw_below_drewN | apply below_drew1) | exact HB.out))) : w.heap.size ≤ gb101)); have n3_ := Aside0.mk ((by rw [hg]; exact (below_size (by repeat (first | (with_reducible first | exact HB.out | apply below_alloc | apply pw_below_drewN | apply below_drew1) | exact HB.out))) : w.heap.size ≤ gb101)); clear HB; have HB := n0_; have BK101 := n1_; have GW101 := n2_; have GE101 := n3_; clear n0_ n1_ n2_ n3_; clear hb hbox hg; have hcz11_0 : w10.cell? ⟨gb101, 0, none⟩ = some (.int .i64 a0_0) := (blk_cell BK101.out 0).trans rfl; have hcz11_1 : w10.cell? ⟨gb101, 1, none⟩ = some (.int .i64 a0_1) := (blk_cell BK101.out 1).trans rfl; have hfz11_0 := blk_frozen BK101.out 0; have hfz11_1 := blk_frozen BK101.out 1))
    go_ret
    exact ⟨by first | rfl | (simp [errW_none, errW_some] <;> rfl) | (simp [*, errW_none, errW_some] <;> rfl), by repeat (first | (with_reducible first | exact HB.out | apply below_alloc | apply pw_below_drewN | apply below_drew1 | refine below_set ?_ GE101.out) | exact HB.out)⟩
def lack_sum_int.l0 : Nat → Int → List Int → Int → Int → Option (Int)
  | 0, _, _, _, _ => none
  | k + 1, x3, x6, x7, x8 => if x8 < x7 then (if 0 ≤ x8 then (if x8 < (x6.length : Int) then (lack_sum_int.l0 k (wrap64 (x3 + (rd x6 x8))) x6 x7 (wrap64 (x8 + 1))) else (none)) else (none)) else (some x3)
def lack_sum_int.f (k : Nat) (l0 : List Int) : Option (Int) := lack_sum_int.l0 k 0 l0 (l0.length : Int) 0
theorem lack_sum_int.mono_l : ∀ k, (∀ y0 y1 y2 y3, LeO (lack_sum_int.l0 k y0 y1 y2 y3) (lack_sum_int.l0 (k + 1) y0 y1 y2 y3))
  | 0 => fun _ _ _ _ r h => by simp [lack_sum_int.l0] at h
  | k + 1 => by
    have ih0 := lack_sum_int.mono_l k
    · intro y0 y1 y2 y3
      unfold lack_sum_int.l0
      repeat' first
      | (with_reducible exact ih0 _ _ _ _)
      | (with_reducible exact LeO.refl _)
      | (with_reducible exact LeO.none _)
      | (with_reducible refine LeO.ite ?_ ?_)
      | (with_reducible refine LeO.bind ?_ (fun _ => ?_))
      | exact ih0 _ _ _ _
      | exact LeO.none _
      | refine LeO.ite ?_ ?_
      | refine LeO.bind ?_ (fun _ => ?_)
theorem lack_sum_int.mono : ∀ a0 k, LeO (lack_sum_int.f k a0) (lack_sum_int.f (k + 1) a0) := by
  intro a0 k
  have ih0 := lack_sum_int.mono_l k
  unfold lack_sum_int.f
  repeat' first
      | (with_reducible exact ih0 _ _ _ _)
      | (with_reducible exact LeO.refl _)
      | (with_reducible exact LeO.none _)
      | (with_reducible refine LeO.ite ?_ ?_)
      | (with_reducible refine LeO.bind ?_ (fun _ => ?_))
      | exact ih0 _ _ _ _
      | exact LeO.none _
      | refine LeO.ite ?_ ?_
      | refine LeO.bind ?_ (fun _ => ?_)
set_option maxHeartbeats 8000000 in
set_option maxRecDepth 100000 in
theorem lack_sum_int.calls (k : Nat) (A0 : Option Addr) (c0 : Nat) (l0 : List Int) (r : Int) (w : World) (hr0 : Kd.C (Kd.int .i64) w A0 l0.length l0) (hc0 : l0.length ≤ c0) (h : lack_sum_int.f k l0 = some r) :
    Calls Tryd.prog 81 #[.slice A0 l0.length c0] w fun e w' => e = .returned (.int .i64 r) ∧ Drawn0 w w' := by
  have HR0 := Aside0.mk hr0
  have HC0 := Aside0.mk hc0
  clear hr0 hc0
  have H : (lack_sum_int.l0 k 0 l0 (l0.length : Int) 0) = some r := h
  clear h
  have H' := Aside0.mk H
  clear H
  go_enter Tryd.func81, Tryd.ntmps81
  go_wp2
  go_loopg [3, 8] k (fun kq v3 v8 w' => ∃ (x3_1 : Int) (x8_1 : Int), v3 = .int .i64 x3_1 ∧ v8 = .int .i64 x8_1 ∧ Aside0 (lack_sum_int.l0 kq x3_1 l0 (l0.length : Int) x8_1 = some r) ∧ Aside0 (kq ≤ k) ∧ Drawn0 w w')
  case atStart => exact ⟨(0), (0), (by first | rfl | (simp; done) | (simp [*]; done)), (by first | rfl | (simp; done) | (simp [*]; done)), H', ⟨Nat.le_refl _⟩, by repeat (first | exact Drawn0.refl _ | apply Drawn0.step)⟩
  case round =>
    clear H'
    obtain ⟨x3_1, x8_1, rfl, rfl, HA, HK1, ⟨m1, rfl⟩⟩ := hrel
    cases gk with
    | zero => exact absurd HA.out (by simp [lack_sum_int.l0])
    | succ k1 =>
      have H := HA.out
      clear HA
      simp only [lack_sum_int.l0] at H
      by_cases c2 : x8_1 < (l0.length : Int)
      · rw [if_pos c2] at H
        have c2b0 : decide (x8_1 < (l0.length : Int)) = true := decide_eq_true c2
        clear c2
        by_cases c3 : 0 ≤ x8_1
        · rw [if_pos c3] at H
          have c3b0 : decide (0 ≤ x8_1) = true := decide_eq_true c3
          clear c3
          by_cases c4 : x8_1 < (l0.length : Int)
          · rw [if_pos c4] at H
            have c4b0 : decide (x8_1 < (l0.length : Int)) = true := decide_eq_true c4
            clear c4
            have H' := Aside0.mk H
            clear H
            have p102 : 0 ≤ (x8_1 : Int) := of_decide_eq_true (by first | (with_reducible assumption) | assumption)
            have q102 : x8_1 < (l0.length : Int) := of_decide_eq_true (by first | (with_reducible assumption) | assumption)
            obtain ⟨ad102, e102, hx102_0⟩ := Kd.at_int HR0.out x8_1 p102 q102
            cases e102
            replace p102 := eq_true p102
            replace q102 := eq_true q102
            go_wp2
            go_roundg k1
            case measure => have := HK1.out; omega
            case rel => exact ⟨(wrap64 (x3_1 + (rd l0 x8_1))), (wrap64 (x8_1 + 1)), (by first | rfl | (simp; done) | (simp [*]; done)), (by first | rfl | (simp; done) | (simp [*]; done)), H', ⟨by have := HK1.out; omega⟩, by repeat (first | exact Drawn0.refl _ | apply Drawn0.step)⟩
          · rw [if_neg c4] at H
            exact absurd H (by simp)
        · rw [if_neg c3] at H
          exact absurd H (by simp)
      · rw [if_neg c2] at H
        have c2b0 : decide (x8_1 < (l0.length : Int)) = false := decide_eq_false c2
        clear c2
        obtain rfl := Option.some.inj H
        go_wp2
        go_ret
        exact ⟨by first | rfl | (simp; done) | (simp [*]; done), by repeat (first | exact Drawn0.refl _ | apply Drawn0.step)⟩
def wishbookref00_Tween.f (a0 : Int) (a1 : Int) (a2 : Int) : Option (Bool) := if a1 ≤ a0 then (some (decide (a0 ≤ a2))) else (some false)
set_option maxHeartbeats 8000000 in
set_option maxRecDepth 100000 in
theorem wishbookref00_Tween.calls (a0 : Int) (a1 : Int) (a2 : Int) (r : Bool) (w : World) (h : wishbookref00_Tween.f a0 a1 a2 = some r) :
    Calls Tryd.prog 34 #[.int .i64 a0, .int .i64 a1, .int .i64 a2] w fun e w' => e = .returned (.bool r) ∧ Drawn0 w w' := by
  have H : (if a1 ≤ a0 then (some (decide (a0 ≤ a2))) else (some false)) = some r := h
  clear h
  by_cases c4 : a1 ≤ a0
  · rw [if_pos c4] at H
    have c4b0 : decide (a1 ≤ a0) = true := decide_eq_true c4
    clear c4
    obtain rfl := Option.some.inj H
    go_enter Tryd.func34, Tryd.ntmps34
    go_wp2
    go_ret
    exact ⟨by first | rfl | (simp; done) | (simp [*]; done), by repeat (first | exact Drawn0.refl _ | apply Drawn0.step)⟩
  · rw [if_neg c4] at H
    have c4b0 : decide (a1 ≤ a0) = false := decide_eq_false c4
    clear c4
    obtain rfl := Option.some.inj H
    go_enter Tryd.func34, Tryd.ntmps34
    go_wp2
    go_ret
    exact ⟨by first | rfl | (simp; done) | (simp [*]; done), by repeat (first | exact Drawn0.refl _ | apply Drawn0.step)⟩
def wishbookref00_Proper.f (a0_0 : Int) (a0_1 : Int) (a1 : Int) (a2 : Int) : Option (Bool) := if a1 ≤ a0_0 then (if a0_0 ≤ a0_1 then (some (decide (a0_1 ≤ a2))) else (some false)) else (some false)
set_option maxHeartbeats 8000000 in
set_option maxRecDepth 100000 in
theorem wishbookref00_Proper.calls (a0_0 : Int) (a0_1 : Int) (a1 : Int) (a2 : Int) (r : Bool) (w : World) (h : wishbookref00_Proper.f a0_0 a0_1 a1 a2 = some r) :
    Calls Tryd.prog 65 #[.agg #[.int .i64 a0_0, .int .i64 a0_1], .int .i64 a1, .int .i64 a2] w fun e w' => e = .returned (.bool r) ∧ Below w.heap.size w w' := by
  have hu55 := Tryd.underlying55
  have HB := Aside0.mk (Below.refl w.heap.size w)
  have H : (if a1 ≤ a0_0 then (if a0_0 ≤ a0_1 then (some (decide (a0_1 ≤ a2))) else (some false)) else (some false)) = some r := h
  clear h
  by_cases c4 : a1 ≤ a0_0
  · rw [if_pos c4] at H
    have c4b0 : decide (a1 ≤ a0_0) = true := decide_eq_true c4
    clear c4
    by_cases c5 : a0_0 ≤ a0_1
    · rw [if_pos c5] at H
      have c5b0 : decide (a0_0 ≤ a0_1) = true := decide_eq_true c5
      clear c5
      obtain rfl := Option.some.inj H
      go_enter Tryd.func65, Tryd.ntmps65
      go_wp2_with (first | ((with_reducible refine gate_dst (N := 3) rfl ?_); refine box_event ?hg (N := 3) ?hd (cs := #[.int .i64 a0_0, .int .i64 a0_1]) (t := 55) ?hr ?_; (case hd => rfl); (case hg => rfl); (case hr => first | (go_simp; done) | (go_simp; rfl)); intro gb103 hg w6 hbox hb; have n0_ := Aside0.mk (below_step (by repeat (first | (with_reducible first | exact HB.out | apply below_alloc | apply pw_below_drewN | apply below_drew1) | exact HB.out)) hb); have n1_ := Aside0.mk (hbox); have n2_ := Aside0.mk ((by rw [hg]; exact (below_size (by repeat (first | (with_reducible first | exact HB.out | apply below_alloc | apply pw_below_drewN | apply below_drew1) | exact HB.out))) : w.heap.size ≤ gb103)); have n3_ := Aside0.mk ((by rw [hg]; exact (below_size (by repeat (first | (with_reducible first | exact HB.out | apply below_alloc | apply pw_below_drewN | apply below_drew1) | exact HB.out))) : w.heap.size ≤ gb103)); clear HB; have HB := n0_; have BK103 := n1_; have GW103 := n2_; have GE103 := n3_; clear n0_ n1_ n2_ n3_; clear hb hbox hg; have hcz7_0 : w6.cell? ⟨gb103, 0, none⟩ = some (.int .i64 a0_0) := (blk_cell BK103.out 0).trans rfl; have hcz7_1 : w6.cell? ⟨gb103, 1, none⟩ = some (.int .i64 a0_1) := (blk_cell BK103.out 1).trans rfl; have hfz7_0 := blk_frozen BK103.out 0; have hfz7_1 := blk_frozen BK103.out 1))
      go_ret
      exact ⟨by first | rfl | (simp [errW_none, errW_some] <;> rfl) | (simp [*, errW_none, errW_some] <;> rfl), by repeat (first | (with_reducible first | exact HB.out | apply below_alloc | apply pw_below_drewN | apply below_drew1 | refine below_set ?_ GE103.out) | exact HB.out)⟩
    · rw [if_neg c5] at H
      have c5b0 : decide (a0_0 ≤ a0_1) = false := decide_eq_false c5
      clear c5
      obtain rfl := Option.some.inj H
      go_enter Tryd.func65, Tryd.ntmps65
      go_wp2_with (first | ((with_reducible refine gate_dst (N := 3) rfl ?_); refine box_event ?hg (N := 3) ?hd (cs := #[.int .i64 a0_0, .int .i64 a0_1]) (t := 55) ?hr ?_; (case hd => rfl); (case hg => rfl); (case hr => first | (go_simp; done) | (go_simp; rfl)); intro gb103 hg w8 hbox hb; have n0_ := Aside0.mk (below_step (by repeat (first | (with_reducible first | exact HB.out | apply below_alloc | apply pw_below_drewN | apply below_drew1) | exact HB.out)) hb); have n1_ := Aside0.mk (hbox); have n2_ := Aside0.mk ((by rw [hg]; exact (below_size (by repeat (first | (with_reducible first | exact HB.out | apply below_alloc | apply pw_below_drewN | apply below_drew1) | exact HB.out))) : w.heap.size ≤ gb103)); have n3_ := Aside0.mk ((by rw [hg]; exact (below_size (by repeat (first | (with_reducible first | exact HB.out | apply below_alloc | apply pw_below_drewN | apply below_drew1) | exact HB.out))) : w.heap.size ≤ gb103)); clear HB; have HB := n0_; have BK103 := n1_; have GW103 := n2_; have GE103 := n3_; clear n0_ n1_ n2_ n3_; clear hb hbox hg; have hcz9_0 : w8.cell? ⟨gb103, 0, none⟩ = some (.int .i64 a0_0) := (blk_cell BK103.out 0).trans rfl; have hcz9_1 : w8.cell? ⟨gb103, 1, none⟩ = some (.int .i64 a0_1) := (blk_cell BK103.out 1).trans rfl; have hfz9_0 := blk_frozen BK103.out 0; have hfz9_1 := blk_frozen BK103.out 1))
      go_ret
      exact ⟨by first | rfl | (simp [errW_none, errW_some] <;> rfl) | (simp [*, errW_none, errW_some] <;> rfl), by repeat (first | (with_reducible first | exact HB.out | apply below_alloc | apply pw_below_drewN | apply below_drew1 | refine below_set ?_ GE103.out) | exact HB.out)⟩
  · rw [if_neg c4] at H
    have c4b0 : decide (a1 ≤ a0_0) = false := decide_eq_false c4
    clear c4
    obtain rfl := Option.some.inj H
    go_enter Tryd.func65, Tryd.ntmps65
    go_wp2_with (first | ((with_reducible refine gate_dst (N := 3) rfl ?_); refine box_event ?hg (N := 3) ?hd (cs := #[.int .i64 a0_0, .int .i64 a0_1]) (t := 55) ?hr ?_; (case hd => rfl); (case hg => rfl); (case hr => first | (go_simp; done) | (go_simp; rfl)); intro gb103 hg w10 hbox hb; have n0_ := Aside0.mk (below_step (by repeat (first | (with_reducible first | exact HB.out | apply below_alloc | apply pw_below_drewN | apply below_drew1) | exact HB.out)) hb); have n1_ := Aside0.mk (hbox); have n2_ := Aside0.mk ((by rw [hg]; exact (below_size (by repeat (first | (with_reducible first | exact HB.out | apply below_alloc | apply pw_below_drewN | apply below_drew1) | exact HB.out))) : w.heap.size ≤ gb103)); have n3_ := Aside0.mk ((by rw [hg]; exact (below_size (by repeat (first | (with_reducible first | exact HB.out | apply below_alloc | apply pw_below_drewN | apply below_drew1) | exact HB.out))) : w.heap.size ≤ gb103)); clear HB; have HB := n0_; have BK103 := n1_; have GW103 := n2_; have GE103 := n3_; clear n0_ n1_ n2_ n3_; clear hb hbox hg; have hcz11_0 : w10.cell? ⟨gb103, 0, none⟩ = some (.int .i64 a0_0) := (blk_cell BK103.out 0).trans rfl; have hcz11_1 : w10.cell? ⟨gb103, 1, none⟩ = some (.int .i64 a0_1) := (blk_cell BK103.out 1).trans rfl; have hfz11_0 := blk_frozen BK103.out 0; have hfz11_1 := blk_frozen BK103.out 1))
    go_ret
    exact ⟨by first | rfl | (simp [errW_none, errW_some] <;> rfl) | (simp [*, errW_none, errW_some] <;> rfl), by repeat (first | (with_reducible first | exact HB.out | apply below_alloc | apply pw_below_drewN | apply below_drew1 | refine below_set ?_ GE103.out) | exact HB.out)⟩
end Go.Proofs.YtegpepnmnlockaaDoor.PL
namespace Go.Proofs.YtegpepnmnlockaaDoor.PL
open Go.RowKit Go.Proofs.YtegpepnmnlockaaDoorW.PrintWords Go.Proofs.YtegpepnmnlockaaDoorW.PrintLast Go.Proofs.YtegpepnmnlockaaDoorW.PrintMore
open Go.Maps
theorem laidOut : laidOutB Tryd.prog = true := by kernel_rfl
theorem row104 : (104 : TypeId) < Tryd.prog.types.size := of_decide_eq_true (by kernel_rfl)
theorem deep104 : Tryd.prog.keyTypeAt (Tryd.prog.types.size + 1) 104 = true := by kernel_rfl
theorem law104 : WideMaps.KeyLaw Tryd.prog 104 := deep_law_laid laidOut (m := 2) (by omega) row104 (by kernel_rfl) (by kernel_rfl)
theorem keyed104 : Keyed Tryd.prog 104 := Keyed.of_law law104
theorem cells104 : Tryd.prog.cellsOf 104 = 2 := by kernel_rfl
theorem cells3 : Tryd.prog.cellsOf 3 = 1 := by kernel_rfl
theorem isStruct104 : ∃ fs, Tryd.prog.underlying 104 = some (.struct fs) := ⟨_, Tryd.underlying104⟩
theorem zero3 (w : World) : (zeroValue 3).run Tryd.prog w = .ok (.int .i64 0) w := by kernel_rfl
/-- The key of a good and a day. -/
def spotV (g d : Int) : Value := .agg #[.int .i64 g, .int .i64 d]
theorem formed104 (g d : Int) : (spotV g d).formed Tryd.prog 104 = true := by
  obtain ⟨fs, hu⟩ := isStruct104
  simp [spotV, Value.formed, hu, cells104]
theorem keyOf_spot {g d : Int} (hg : (Lit.int .i64 g).wf = true) (hd : (Lit.int .i64 d).wf = true) : ∃ kl, keyOf Tryd.prog 104 (spotV g d) = some kl := by
  have h : DataW.Trod (H := Nat) (fun _ => 0) Tryd.prog (default : World) 0 (fun _ => true) true 104 (spotV g d) (.agg [.lit (.int .i64 g), .lit (.int .i64 d)]) [] := by
    refine ⟨3, ?_⟩
    simp [spotV, Value.cells, DataW.trod, Tryd.underlying104, Tryd.underlying3, cells104, cells3, hg, hd]
  exact ⟨_, (keyOf_asKey deep104 (by kernel_rfl) (formed104 g d) h).1⟩
/-- A map of the program's own, keyed by goods and days: F tells what it holds. -/
def SpotMap (w : World) (b n : Nat) (F : Int → Int → Int) : Prop :=
  ∃ D : DataW Nat, w.ownsMap Tryd.prog 104 (plainElem Tryd.prog 3) b n D ∧
    ∀ g d kl, keyOf Tryd.prog 104 (spotV g d) = some kl → D.atKey kl (.lit (.int .i64 0)) = .lit (.int .i64 (F g d))
section
variable {w w' : World} {b n : Nat} {F : Int → Int → Int}
theorem SpotMap.made (w : World) : SpotMap (w.alloc (.map #[] 0)) w.heap.size 0 (fun _ _ => 0) := by
  refine ⟨_, World.ownsMap_made w Tryd.prog 104 (plainElem Tryd.prog 3), fun g d kl _ => ?_⟩
  simp [DataW.atKey]
theorem SpotMap.lt (h : SpotMap w b n F) : b < w.heap.size := by
  obtain ⟨D, h, _⟩ := h
  exact h.lt
theorem SpotMap.kept {row : Option Nat} (h : SpotMap w b n F) (hg : w.grownBy w' row) (hne : some b ≠ row) : SpotMap w' b n F := by
  obtain ⟨D, h, hD⟩ := h
  exact ⟨D, h.kept hg hne, hD⟩
theorem SpotMap.below (h : SpotMap w b n F) (hb : Below w.heap.size w w') : SpotMap w' b n F := h.kept (grown_of_below hb none) (by simp)
/-- 'm[spot{g, d}]'. -/
theorem SpotMap.look (h : SpotMap w b n F) {g d : Int} (hg : (Lit.int .i64 g).wf = true) (hd : (Lit.int .i64 d).wf = true) :
    (Instr.lookup 84 (.map (some b)) (spotV g d) false).run Tryd.prog w = .ok (.int .i64 (F g d)) w := by
  obtain ⟨D, h, hD⟩ := h
  obtain ⟨kl, hkl⟩ := keyOf_spot hg hd
  obtain ⟨c, hrun, hat, hwc⟩ := h.lookup_int keyed104 Tryd.underlying84 Tryd.underlying3 (zero3 w) hkl
  have e : c = F g d := by
    have := hat.symm.trans (hD g d kl hkl)
    simpa using this
  subst e
  exact hrun
/-- 'm[spot{g, d}] = v'. -/
theorem SpotMap.store (h : SpotMap w b n F) (hn : n < maxLen) {g d v : Int} (hg : (Lit.int .i64 g).wf = true) (hd : (Lit.int .i64 d).wf = true) (hv : (Lit.int .i64 v).wf = true) :
    ∃ w', (Instr.mapUpdate 84 (.map (some b)) (spotV g d) (.int .i64 v)).run Tryd.prog w = .ok () w' ∧ SpotMap w' b (n + 1) (fun x y => if x = g ∧ y = d then v else F x y) ∧ w.grownBy w' (some b) := by
  obtain ⟨D, h, hD⟩ := h
  obtain ⟨kl, hkl⟩ := keyOf_spot hg hd
  obtain ⟨w', hrun, hown, hgr⟩ := h.update keyed104 Tryd.underlying84 hn hkl (plainElem_int Tryd.underlying3 hv)
  refine ⟨w', hrun, ⟨_, hown, fun x y ky hky => ?_⟩, hgr⟩
  by_cases e : ky = kl
  · subst e
    have := law104.inj hky hkl
    simp only [spotV, Value.agg.injEq, Array.mk.injEq, List.cons.injEq, Value.int.injEq, true_and, and_true] at this
    show _ = DataW.lit (Lit.int IntKind.i64 (if x = g ∧ y = d then v else F x y))
    rw [if_pos this]
    exact atKey_put_same h.isMap (keyed104.key hkl) _ _
  · show _ = DataW.lit (Lit.int IntKind.i64 (if x = g ∧ y = d then v else F x y))
    rw [atKey_put_other e, hD x y ky hky, if_neg]
    rintro ⟨rfl, rfl⟩
    rw [hkl] at hky
    exact e (Option.some.inj hky).symm
end
end Go.Proofs.YtegpepnmnlockaaDoor.PL
namespace Go.Proofs.YtegpepnmnlockaaDoor.PL
open Go.RowKit Go.Proofs.YtegpepnmnlockaaDoorW.PrintWords Go.Proofs.YtegpepnmnlockaaDoorW.PrintLast Go.Proofs.YtegpepnmnlockaaDoorW.PrintMore
attribute [local go_sem] max2_int min2_int max_two min_two max_three min_three max_four min_four
set_option linter.unusedVariables false
set_option linter.unusedSimpArgs false
theorem wf64 {x : Int} (h1 : -1000000000 ≤ x) (h2 : x ≤ 1000000000) : (Lit.int .i64 x).wf = true := Go.WalkArith.wf_i64 ⟨by omega, by omega⟩
theorem all_alloc {w : World} {a : Addr} {v : Value} (h : w.cell? a = some v) : ∀ o, (w.alloc o).cell? a = some v := fun o => pw_cell_below (below_alloc (Below.refl _ _) o) h
/-- What must be given out of a good by a day, of the first i lines. -/
def dueTo (l1 : List S47) (good day : Int) (sh : List S49) : Nat → Int
  | 0 => 0
  | i + 1 => dueTo l1 good day sh i + if (rd_T47 l1 i).f1 = good ∧ (rd_T47 l1 i).f3 ≤ day then (rd_T49 sh i).f2 else 0
def keptUpto (l1 : List S47) (good : Int) (sh : List S49) (F : Int → Int → Int) (n : Nat) : Bool := (List.range n).all fun d => decide (dueTo l1 good d sh sh.length ≤ F good d)
def keptF (l1 : List S47) (good : Int) (sh : List S49) (F : Int → Int → Int) : Bool := keptUpto l1 good sh F 101
theorem keptUpto_false {l1 : List S47} {good : Int} {sh : List S49} {F : Int → Int → Int} {k n : Nat} (hk : k < n) (h : ¬ dueTo l1 good k sh sh.length ≤ F good k) : keptUpto l1 good sh F n = false := by
  unfold keptUpto
  rw [List.all_eq_false]
  exact ⟨k, List.mem_range.2 hk, by simpa using h⟩
theorem rdmem49 {P : S49 → Prop} {sh : List S49} (hs : ∀ s ∈ sh, P s) {i : Nat} (h : i < sh.length) : P (rd_T49 sh i) := by
  unfold rd_T49
  rw [Int.toNat_natCast, List.getD_eq_getElem?_getD, List.getElem?_eq_getElem h]
  exact hs _ (List.getElem_mem _)
theorem dueTo_bd (l1 : List S47) (good day : Int) (sh : List S49) (hs : ∀ s ∈ sh, 0 ≤ s.f2 ∧ s.f2 ≤ 20) : ∀ i : Nat, i ≤ sh.length → 0 ≤ dueTo l1 good day sh i ∧ dueTo l1 good day sh i ≤ 20 * (i : Int)
  | 0, _ => by simp [dueTo]
  | i + 1, h => by
    have ih := dueTo_bd l1 good day sh hs i (by omega)
    have := rdmem49 hs (i := i) (by omega)
    unfold dueTo
    split <;> omega
/-- The book in the calculation, at block g: its cells. -/
def bookCells (S L D : Value) (left : List Int) (mb : Nat) (sv : Value) : Array Value :=
  #[S, L, D, .int .i64 (rd left 0), .int .i64 (rd left 1), .int .i64 (rd left 2), .int .i64 (rd left 3), .int .i64 (rd left 4), .map (some mb), sv]
theorem bookCells_left (S L D : Value) (left : List Int) (mb : Nat) (sv : Value) (i : Nat) (hi : i < 5) : (bookCells S L D left mb sv)[3 + i]? = some (.int .i64 (rd left i)) := by
  match i, hi with
  | 0, _ => rfl
  | 1, _ => rfl
  | 2, _ => rfl
  | 3, _ => rfl
  | 4, _ => rfl
theorem bookCells_set (S L D : Value) (left : List Int) (mb : Nat) (sv : Value) (i : Nat) (hi : i < 5) (v : Int) (hl : left.length = 5) : (bookCells S L D left mb sv).setIfInBounds (3 + i) (.int .i64 v) = bookCells S L D (left.set i v) mb sv := by
  match left, hl with
  | [a, b, c, d, e], _ =>
    match i, hi with
    | 0, _ => rfl
    | 1, _ => rfl
    | 2, _ => rfl
    | 3, _ => rfl
    | 4, _ => rfl
set_option maxHeartbeats 4000000 in
set_option maxRecDepth 100000 in
theorem kept_calls (g mb n : Nat) (S D sv : Value) (A1 : Option Addr) (c1 : Nat) (l1 : List S47) (left : List Int) (F : Int → Int → Int) (good : Int) (A2 : Option Addr) (c2 : Nat) (sh : List S49) (w : World)
    (hb : w.heap[g]? = some (.cells (bookCells S (.slice A1 l1.length c1) D left mb sv) 86 (0, 0)))
    (hm : SpotMap w mb n F) (h1 : Kd.C k47 w A1 l1.length l1) (hc1 : l1.length ≤ c1) (h2 : Kd.C k49 w A2 sh.length sh) (hc2 : sh.length ≤ c2)
    (hlen : sh.length ≤ l1.length) (hl : sh.length ≤ 10) (hs : ∀ s ∈ sh, 0 ≤ s.f2 ∧ s.f2 ≤ 20) (hg : 0 ≤ good ∧ good ≤ 4) :
    Calls Tryd.prog 58 #[.pointer (some ⟨g, 0, none⟩), .int .i64 good, .slice A2 sh.length c2] w fun e w' => e = .returned (.bool (keptF l1 good sh F)) ∧ Below w.heap.size w w' := by
  have HBK := Aside0.mk hb; clear hb
  have HM := Aside0.mk hm; clear hm
  have HR1 := Aside0.mk h1; clear h1
  have HR2 := Aside0.mk h2; clear h2
  have HS := Aside0.mk hs; clear hs
  go_enter Tryd.func58, Tryd.ntmps58
  go_wp2
  go_loopw [11] (fun i wr => ∃ k : Nat, k ≤ 101 ∧ i = .int .i64 k ∧ Aside0 (keptUpto l1 good sh F k = true) ∧ Below w.heap.size w wr) (fun i _ => 101 - (intOf i).toNat)
  case atStart => exact ⟨0, by omega, rfl, ⟨rfl⟩, Below.refl _ _⟩
  case round =>
    obtain ⟨k, hk, rfl, HU, HB⟩ := hrel
    by_cases hlt : k < 101
    · go_wp2
      go_loopw [8, 16] (fun nn i wi => ∃ j : Nat, j ≤ sh.length ∧ i = .int .i64 j ∧ nn = .int .i64 (dueTo l1 good k sh j) ∧ Below w.heap.size w wi) (fun _ i wi => sh.length - (intOf i).toNat)
      case atStart => exact ⟨0, by omega, rfl, rfl, HB⟩
      case round =>
        obtain ⟨j, hj, rfl, rfl, HBi⟩ := hrel
        have hbi := blk_below HBK.out HBi
        by_cases hjl : j < sh.length
        · have hL : wr.cell? ⟨g, 1, none⟩ = some (.slice A1 l1.length c1) := (blk_cell hbi 1).trans rfl
          obtain ⟨ad1, e1, p0, p1, p2, p3, p4⟩ := at_T47 (Kd.C_below HR1.out HBi) j (by omega) (by omega)
          obtain ⟨ad2, e2, q0, q1, q2, q3⟩ := at_T49 (Kd.C_below HR2.out HBi) j (by omega) (by omega)
          cases e1; cases e2
          simp only [Int.toNat_natCast] at p0 p1 p2 p3 p4 q0 q1 q2 q3
          have hd := dueTo_bd l1 good k sh HS.out j hj
          clear hbi
          have hL' := all_alloc hL
          have p1' := all_alloc p1
          have p3' := all_alloc p3
          have hq : 0 ≤ (rd_T49 sh j).f2 ∧ (rd_T49 sh j).f2 ≤ 20 := rdmem49 HS.out hjl
          have hsz := HBi.size
          by_cases c : (rd_T47 l1 j).f1 = good ∧ (rd_T47 l1 j).f3 ≤ k
          · obtain ⟨ca, cb⟩ := c
            have D := Aside0.mk (show dueTo l1 good k sh (j + 1) = dueTo l1 good k sh j + (rd_T49 sh j).f2 by rw [dueTo, if_pos ⟨ca, cb⟩])
            have cA : ((rd_T47 l1 j).f1 == good) = true := beq_iff_eq.2 ca
            have cB : decide ((rd_T47 l1 j).f3 ≤ k) = true := decide_eq_true cb
            clear ca cb
            go_wp2
            go_roundw
            case rel => exact ⟨j + 1, by omega, by go_num, by rw [D.out], HBi.alloc (by omega) _⟩
            case measure => simp [intOf]; omega
          · have D := Aside0.mk (show dueTo l1 good k sh (j + 1) = dueTo l1 good k sh j by rw [dueTo, if_neg c]; omega)
            by_cases ca : (rd_T47 l1 j).f1 = good
            · have cb : ¬ (rd_T47 l1 j).f3 ≤ k := fun h => c ⟨ca, h⟩
              have cA : ((rd_T47 l1 j).f1 == good) = true := beq_iff_eq.2 ca
              have cB : decide ((rd_T47 l1 j).f3 ≤ k) = false := decide_eq_false cb
              clear ca cb c
              go_wp2
              go_roundw
              case rel => exact ⟨j + 1, by omega, by go_num, by rw [D.out], HBi.alloc (by omega) _⟩
              case measure => simp [intOf]; omega
            · have cA : ((rd_T47 l1 j).f1 == good) = false := beq_eq_false_iff_ne.2 ca
              clear ca c
              go_wp2
              go_roundw
              case rel => exact ⟨j + 1, by omega, by go_num, by rw [D.out], HBi.alloc (by omega) _⟩
              case measure => simp [intOf]; omega
        · have hM : wr.cell? ⟨g, 8, none⟩ = some (.map (some mb)) := (blk_cell hbi 8).trans rfl
          have hlk := (HM.out.below HBi).look (g := good) (d := k) (wf64 (by omega) (by omega)) (wf64 (by omega) (by omega))
          clear hbi
          unfold spotV at hlk
          obtain rfl : j = sh.length := by omega
          by_cases c : dueTo l1 good k sh sh.length ≤ F good k
          · have HU' := Aside0.mk (show keptUpto l1 good sh F (k + 1) = true by rw [keptUpto, List.range_succ, List.all_append]; exact Bool.and_eq_true_iff.2 ⟨HU.out, by simpa using c⟩)
            go_wp2
            go_roundw
            case rel => exact ⟨k + 1, by omega, by go_num, HU', HBi⟩
            case measure => simp [intOf]; omega
          · have HU' := Aside0.mk (show keptF l1 good sh F = false from keptUpto_false (k := k) (by omega) c)
            go_wp2
            go_ret
            exact ⟨by rw [HU'.out]; rfl, HBi⟩
    · obtain rfl : k = 101 := by omega
      go_wp2
      go_ret
      exact ⟨by unfold keptF; rw [HU.out]; rfl, HB⟩
theorem kept_calls' (g mb n : Nat) (S D sv : Value) (A1 : Option Addr) (c1 : Nat) (l1 : List S47) (left : List Int) (F : Int → Int → Int) (good : Int) (A2 : Option Addr) (c2 n2 : Nat) (sh : List S49) (w : World) (hn : n2 = sh.length)
    (hb : w.heap[g]? = some (.cells (bookCells S (.slice A1 l1.length c1) D left mb sv) 86 (0, 0)))
    (hm : SpotMap w mb n F) (h1 : Kd.C k47 w A1 l1.length l1) (hc1 : l1.length ≤ c1) (h2 : Kd.C k49 w A2 sh.length sh) (hc2 : sh.length ≤ c2)
    (hlen : sh.length ≤ l1.length) (hl : sh.length ≤ 10) (hs : ∀ s ∈ sh, 0 ≤ s.f2 ∧ s.f2 ≤ 20) (hg : 0 ≤ good ∧ good ≤ 4) :
    Calls Tryd.prog 58 #[.pointer (some ⟨g, 0, none⟩), .int .i64 good, .slice A2 n2 c2] w fun e w' => e = .returned (.bool (keptF l1 good sh F)) ∧ Below w.heap.size w w' := by
  subst hn
  exact kept_calls g mb n S D sv A1 c1 l1 left F good A2 c2 sh w hb hm h1 hc1 h2 hc2 hlen hl hs hg
end Go.Proofs.YtegpepnmnlockaaDoor.PL
namespace Go.Proofs.YtegpepnmnlockaaDoor.PL
open Go.RowKit Go.Proofs.YtegpepnmnlockaaDoorW.PrintWords Go.Proofs.YtegpepnmnlockaaDoorW.PrintLast Go.Proofs.YtegpepnmnlockaaDoorW.PrintMore
attribute [local go_sem] max2_int min2_int max_two min_two max_three min_three max_four min_four
set_option linter.unusedVariables false
set_option linter.unusedSimpArgs false
theorem grownBy_setCell {w W : World} {g : Nat} (h : w.grownBy W (some g)) (j : Nat) (v : Value) : w.grownBy (W.setCell ⟨g, j, none⟩ v) (some g) :=
  ⟨h.os, h.tape, h.output, by simpa using h.size, fun i hi hne => (Below.heap_setCell W ⟨g, j, none⟩ v i (fun e => hne (by rw [e]))).trans (h.block i hi hne)⟩
theorem grownBy_drewN {w W : World} {row : Option Nat} (h : w.grownBy W row) (m : Nat) : w.grownBy (W.drewN m) row := ⟨h.os, h.tape, h.output, h.size, h.block⟩
theorem grownBy_drew {w W : World} {row : Option Nat} (h : w.grownBy W row) : w.grownBy W.drew row := ⟨h.os, h.tape, h.output, h.size, h.block⟩
/-- A variable made, orders drawn, one cell of block g written. -/
theorem turned_one {w : World} {g t : Nat} {cs : Array Value} (hb : w.heap[g]? = some (.cells cs t (0, 0))) (o : Obj) (m j : Nat) (v : Value) :
    w.grownBy (((w.alloc o).drewN m).setCell ⟨g, j, none⟩ v) (some g) ∧ (((w.alloc o).drewN m).setCell ⟨g, j, none⟩ v).heap[g]? = some (.cells (cs.setIfInBounds j v) t (0, 0)) :=
  ⟨grownBy_setCell (grownBy_drewN (World.grownBy_alloc w o (some g)) m) j v, blk_set (blk_drewN (blk_alloc hb o) m) j v⟩
theorem mn_lt {a b : Int} (h : b < a) : mn a b = b := by unfold mn; rw [if_pos h]
theorem mn_ge {a b : Int} (h : ¬ b < a) : mn a b = a := by unfold mn; rw [if_neg h]
theorem rd_bd {left : List Int} (h : ∀ x ∈ left, 0 ≤ x ∧ x ≤ 50) (i : Nat) : 0 ≤ rd left i ∧ rd left i ≤ 50 := by
  unfold rd
  rw [Int.toNat_natCast, List.getD_eq_getElem?_getD]
  rcases Nat.lt_or_ge i left.length with hi | hi
  · rw [List.getElem?_eq_getElem hi]
    exact h _ (List.getElem_mem _)
  · rw [List.getElem?_eq_none hi]
    simp
set_option maxHeartbeats 4000000 in
set_option maxRecDepth 100000 in
theorem sent_calls (g mb : Nat) (S L D sv : Value) (left : List Int) (ord good many til ins rest : Int) (w : World)
    (hb : w.heap[g]? = some (.cells (bookCells S L D left mb sv) 86 (0, 0))) (hl : left.length = 5) (hg : 0 ≤ good ∧ good ≤ 4)
    (hle : ∀ x ∈ left, 0 ≤ x ∧ x ≤ 50) (hr : 0 ≤ rest ∧ rest ≤ 20) :
    Calls Tryd.prog 120 #[.pointer (some ⟨g, 0, none⟩), .agg #[.int .i64 ord, .int .i64 good, .int .i64 many, .int .i64 til, .int .i64 ins], .int .i64 rest] w fun e w' =>
      e = .returned (.int .i64 (mn rest (rd left good))) ∧ w.grownBy w' (some g) ∧ w'.heap[g]? = some (.cells (bookCells S L D (left.set good.toNat (rd left good - mn rest (rd left good))) mb sv) 86 (0, 0)) := by
  obtain ⟨i, rfl⟩ := Int.eq_ofNat_of_zero_le hg.1
  have hi : i < 5 := by omega
  have hcl : w.cell? ⟨g, 3 + i, none⟩ = some (.int .i64 (rd left i)) := (blk_cell hb (3 + i)).trans (bookCells_left _ _ _ _ _ _ i hi)
  have hfz := fun o => blk_frozen (blk_alloc hb o) (3 + i)
  have HBK := Aside0.mk hb; clear hb
  have hcl' := all_alloc hcl
  have hu47 := Tryd.underlying47
  have hrd := rd_bd hle i
  have i0 : (0 : Int) ≤ (i : Int) := by omega
  have i5 : (i : Int) < 5 := by omega
  clear hle hg
  by_cases hmin : rd left i < rest
  · go_enter Tryd.func120, Tryd.ntmps120
    go_wp2
    go_quiet (fail)
    go_wp2
    go_region
    go_wp2
    go_ret
    rw [mn_lt hmin]
    refine ⟨rfl, (turned_one HBK.out _ _ _ _).1, (turned_one HBK.out _ _ _ _).2.trans ?_⟩
    rw [bookCells_set _ _ _ _ _ _ i hi _ hl, Int.toNat_natCast, Int.sub_self]
  · go_enter Tryd.func120, Tryd.ntmps120
    go_wp2
    go_quiet (fail)
    go_wp2
    go_region
    go_wp2
    go_ret
    rw [mn_ge (by omega)]
    refine ⟨rfl, (turned_one HBK.out _ _ _ _).1, (turned_one HBK.out _ _ _ _).2.trans ?_⟩
    rw [bookCells_set _ _ _ _ _ _ i hi _ hl, Int.toNat_natCast]
end Go.Proofs.YtegpepnmnlockaaDoor.PL
namespace Go.Proofs.YtegpepnmnlockaaDoor.PL
open Go.RowKit Go.Proofs.YtegpepnmnlockaaDoorW.PrintWords Go.Proofs.YtegpepnmnlockaaDoorW.PrintLast Go.Proofs.YtegpepnmnlockaaDoorW.PrintMore
attribute [local go_sem] max2_int min2_int max_two min_two max_three min_three max_four min_four
set_option linter.unusedVariables false
set_option linter.unusedSimpArgs false
theorem part3 (w : World) (xs : Array Value) (i : Nat) (k : Int) (h : xs[i]? = some (.int .i64 k)) : (part 3 xs i).run Tryd.prog w = .ok (.int .i64 k) w := by
  go_simp
theorem eqn3 (d : Nat) (w : World) (x y : Int) : (Op.equalIn (d + 1) 3 (.int .i64 x) (.int .i64 y)).run Tryd.prog w = .ok (x == y) w := by
  go_simp
theorem eqItems_cons {xs ys : Array Value} {x y : Int} (w : World) (d i : Nat) (is : List Nat) (hx : xs[i * 1]? = some (.int .i64 x)) (hy : ys[i * 1]? = some (.int .i64 y)) :
    (Op.eqItems (d + 1) 3 1 xs ys (i :: is)).run Tryd.prog w = if x == y then (Op.eqItems (d + 1) 3 1 xs ys is).run Tryd.prog w else .ok false w := by
  simp only [Op.eqItems, Sem.run_bind, part3 w _ _ _ hx, part3 w _ _ _ hy, Result.andThen_ok, eqn3]
  cases x == y <;> rfl
theorem eq83 (w : World) (x0 x1 x2 x3 x4 y0 y1 y2 y3 y4 : Int) :
    (binOp .eql 83 (.agg #[.int .i64 x0, .int .i64 x1, .int .i64 x2, .int .i64 x3, .int .i64 x4]) (.agg #[.int .i64 y0, .int .i64 y1, .int .i64 y2, .int .i64 y3, .int .i64 y4])).run Tryd.prog w
      = .ok (.bool (x0 == y0 && (x1 == y1 && (x2 == y2 && (x3 == y3 && x4 == y4))))) w := by
  simp only [binOp, Op.equal, Op.maxDepth]
  obtain ⟨i3, hi⟩ : ∃ i, Tryd.prog.info? 3 = some i := by
    have := info3
    cases h : Tryd.prog.info? 3 with
    | none => rw [h] at this; cases this
    | some i => exact ⟨i, rfl⟩
  have h := run_equalIn_array (P := Tryd.prog) (w := w) 9999 #[.int .i64 x0, .int .i64 x1, .int .i64 x2, .int .i64 x3, .int .i64 x4] #[.int .i64 y0, .int .i64 y1, .int .i64 y2, .int .i64 y3, .int .i64 y4] Tryd.underlying83 hi
  simp only [Sem.run_bind, h, cells3, show List.range 5 = [0, 1, 2, 3, 4] from rfl]
  rw [eqItems_cons _ _ _ _ rfl rfl, eqItems_cons _ _ _ _ rfl rfl, eqItems_cons _ _ _ _ rfl rfl, eqItems_cons _ _ _ _ rfl rfl, eqItems_cons _ _ _ _ rfl rfl]
  cases x0 == y0 <;> cases x1 == y1 <;> cases x2 == y2 <;> cases x3 == y3 <;> cases x4 == y4 <;> rfl
theorem set_self {left : List Int} {i : Nat} (hi : i < left.length) : left.set i (rd left i) = left := by
  unfold rd
  rw [Int.toNat_natCast, List.getD_eq_getElem?_getD, List.getElem?_eq_getElem hi]
  exact List.set_getElem_self hi
theorem rd_zero {left : List Int} (h : (rd left 0 == 0 && (rd left 1 == 0 && (rd left 2 == 0 && (rd left 3 == 0 && rd left 4 == 0)))) = true) (i : Nat) (hi : i < 5) : rd left i = 0 := by
  simp only [Bool.and_eq_true, beq_iff_eq] at h
  obtain ⟨h0, h1, h2, h3, h4⟩ := h
  match i, hi with
  | 0, _ => exact h0
  | 1, _ => exact h1
  | 2, _ => exact h2
  | 3, _ => exact h3
  | 4, _ => exact h4
set_option maxHeartbeats 4000000 in
set_option maxRecDepth 100000 in
theorem nothing_calls (w : World) :
    Calls Tryd.prog 123 #[] w fun e w' => e = .returned (.agg #[.int .i64 0, .int .i64 0, .int .i64 0, .int .i64 0, .int .i64 0]) ∧ Below w.heap.size w w' := by
  have hu83 := Tryd.underlying83
  go_enter Tryd.func123, Tryd.ntmps123
  go_wp2
  refine bodyPost_ret (v := .agg #[.int .i64 0, .int .i64 0, .int .i64 0, .int .i64 0, .int .i64 0]) (by simp [results, Tryd.results123, go_sem]) rfl ⟨rfl, ?_⟩
  exact ((Below.refl _ _).alloc (Nat.le_refl _) _).alloc (by simp) _
set_option maxHeartbeats 4000000 in
set_option maxRecDepth 100000 in
theorem instead_neg (g mb : Nat) (S L D sv : Value) (left : List Int) (ord good many til ins rest : Int) (w : World)
    (hins : ins < 0) :
    Calls Tryd.prog 121 #[.pointer (some ⟨g, 0, none⟩), .agg #[.int .i64 ord, .int .i64 good, .int .i64 many, .int .i64 til, .int .i64 ins], .int .i64 rest] w fun e w' =>
      e = .returned (.int .i64 0) ∧ Below w.heap.size w w' := by
  have hu47 := Tryd.underlying47
  have hd : decide (ins < 0) = true := decide_eq_true hins
  clear hins
  go_enter Tryd.func121, Tryd.ntmps121
  go_wp2
  go_quiet (fail)
  go_wp2
  go_outline
  go_ret
  exact ⟨rfl, pw_below_drewN ((Below.refl _ _).alloc (Nat.le_refl _) _) _⟩
set_option maxHeartbeats 4000000 in
set_option maxRecDepth 100000 in
theorem instead_pos (g mb : Nat) (S L D sv : Value) (left : List Int) (ord good many til ins rest : Int) (w : World)
    (hb : w.heap[g]? = some (.cells (bookCells S L D left mb sv) 86 (0, 0))) (hl : left.length = 5) (hg : 0 ≤ ins ∧ ins ≤ 4)
    (hle : ∀ x ∈ left, 0 ≤ x ∧ x ≤ 50) (hr : 0 ≤ rest ∧ rest ≤ 20) :
    Calls Tryd.prog 121 #[.pointer (some ⟨g, 0, none⟩), .agg #[.int .i64 ord, .int .i64 good, .int .i64 many, .int .i64 til, .int .i64 ins], .int .i64 rest] w fun e w' =>
      e = .returned (.int .i64 (mn rest (rd left ins))) ∧ w.grownBy w' (some g) ∧ w'.heap[g]? = some (.cells (bookCells S L D (left.set ins.toNat (rd left ins - mn rest (rd left ins))) mb sv) 86 (0, 0)) := by
  obtain ⟨i, rfl⟩ := Int.eq_ofNat_of_zero_le hg.1
  have hi : i < 5 := by omega
  have hfz := fun o => blk_frozen (blk_alloc hb o) (3 + i)
  have HBK := Aside0.mk hb
  have z0 : w.cell? ⟨g, 3, none⟩ = some (.int .i64 (rd left 0)) := (blk_cell hb 3).trans rfl
  have z1 : w.cell? ⟨g, 4, none⟩ = some (.int .i64 (rd left 1)) := (blk_cell hb 4).trans rfl
  have z2 : w.cell? ⟨g, 5, none⟩ = some (.int .i64 (rd left 2)) := (blk_cell hb 5).trans rfl
  have z3 : w.cell? ⟨g, 6, none⟩ = some (.int .i64 (rd left 3)) := (blk_cell hb 6).trans rfl
  have z4 : w.cell? ⟨g, 7, none⟩ = some (.int .i64 (rd left 4)) := (blk_cell hb 7).trans rfl
  clear hb
  have hu47 := Tryd.underlying47
  have hu83 := Tryd.underlying83
  have hrd := rd_bd hle i
  have hd : decide ((i : Int) < 0) = false := decide_eq_false (by omega)
  have i0 : (0 : Int) ≤ (i : Int) := by omega
  have i5 : (i : Int) < 5 := by omega
  clear hle hg
  have y0 := all_alloc z0
  have y1 := all_alloc z1
  have y2 := all_alloc z2
  have y3 := all_alloc z3
  have y4 := all_alloc z4
  obtain ⟨b, hbd⟩ : ∃ b, b = (rd left 0 == 0 && (rd left 1 == 0 && (rd left 2 == 0 && (rd left 3 == 0 && rd left 4 == 0)))) := ⟨_, rfl⟩
  have heq : ∀ W, (binOp .eql 83 (.agg #[.int .i64 (rd left 0), .int .i64 (rd left 1), .int .i64 (rd left 2), .int .i64 (rd left 3), .int .i64 (rd left 4)]) (.agg #[.int .i64 0, .int .i64 0, .int .i64 0, .int .i64 0, .int .i64 0])).run Tryd.prog W = .ok (.bool b) W := fun W => by rw [hbd]; exact eq83 W _ _ _ _ _ _ _ _ _ _
  have HBD := Aside0.mk hbd
  clear hbd
  have hcl := all_alloc ((blk_cell HBK.out (3 + i)).trans (bookCells_left _ _ _ _ _ _ i hi))
  cases b with
  | true =>
    go_enter Tryd.func121, Tryd.ntmps121
    go_wp2
    go_region_held3 (fun w' => w'.cell? ⟨w.heap.size, 4, none⟩ = some (.int .i64 i) ∧ w'.cell? ⟨g, 3, none⟩ = some (.int .i64 (rd left 0)) ∧ w'.cell? ⟨g, 4, none⟩ = some (.int .i64 (rd left 1)) ∧ w'.cell? ⟨g, 5, none⟩ = some (.int .i64 (rd left 2)) ∧ w'.cell? ⟨g, 6, none⟩ = some (.int .i64 (rd left 3)) ∧ w'.cell? ⟨g, 7, none⟩ = some (.int .i64 (rd left 4)))
      (go_keep) ((go_at_call 123; refine (nothing_calls _).mono ?_; rintro e w1 ⟨rfl, hb1⟩; have k0 := pw_cell_below hb1 (a := ⟨w.heap.size, 4, none⟩) (v := .int .i64 i) (by simp); have k1 := pw_cell_below hb1 (a := ⟨g, 3, none⟩) (v := .int .i64 (rd left 0)) (by simp [*]); have k2 := pw_cell_below hb1 (a := ⟨g, 4, none⟩) (v := .int .i64 (rd left 1)) (by simp [*]); have k3 := pw_cell_below hb1 (a := ⟨g, 5, none⟩) (v := .int .i64 (rd left 2)) (by simp [*]); have k4 := pw_cell_below hb1 (a := ⟨g, 6, none⟩) (v := .int .i64 (rd left 3)) (by simp [*]); have k5 := pw_cell_below hb1 (a := ⟨g, 7, none⟩) (v := .int .i64 (rd left 4)) (by simp [*])))
    go_wp2
    go_ret
    have hz := rd_zero HBD.out.symm i hi
    have hmn : mn rest (rd left i) = 0 := by rw [hz]; unfold mn; split <;> omega
    rw [hmn, Int.sub_zero, Int.toNat_natCast, set_self (by omega)]
    exact ⟨rfl, (grownBy_drew (World.grownBy_alloc w _ _)).trans (grown_of_below hb1 _), blk_below (blk_drew (blk_alloc HBK.out _)) hb1⟩
  | false =>
    go_enter Tryd.func121, Tryd.ntmps121
    go_wp2
    go_region_held3 (fun w' => w'.cell? ⟨w.heap.size, 4, none⟩ = some (.int .i64 i) ∧ w'.cell? ⟨g, 3, none⟩ = some (.int .i64 (rd left 0)) ∧ w'.cell? ⟨g, 4, none⟩ = some (.int .i64 (rd left 1)) ∧ w'.cell? ⟨g, 5, none⟩ = some (.int .i64 (rd left 2)) ∧ w'.cell? ⟨g, 6, none⟩ = some (.int .i64 (rd left 3)) ∧ w'.cell? ⟨g, 7, none⟩ = some (.int .i64 (rd left 4)))
      (go_keep) ((go_at_call 123; refine (nothing_calls _).mono ?_; rintro e w1 ⟨rfl, hb1⟩; have k0 := pw_cell_below hb1 (a := ⟨w.heap.size, 4, none⟩) (v := .int .i64 i) (by simp); have k1 := pw_cell_below hb1 (a := ⟨g, 3, none⟩) (v := .int .i64 (rd left 0)) (by simp [*]); have k2 := pw_cell_below hb1 (a := ⟨g, 4, none⟩) (v := .int .i64 (rd left 1)) (by simp [*]); have k3 := pw_cell_below hb1 (a := ⟨g, 5, none⟩) (v := .int .i64 (rd left 2)) (by simp [*]); have k4 := pw_cell_below hb1 (a := ⟨g, 6, none⟩) (v := .int .i64 (rd left 3)) (by simp [*]); have k5 := pw_cell_below hb1 (a := ⟨g, 7, none⟩) (v := .int .i64 (rd left 4)) (by simp [*])))
    have hbk1 := blk_below (blk_drew (blk_alloc HBK.out _)) hb1
    have hgr := (grownBy_drew (World.grownBy_alloc w _ (some g))).trans (grown_of_below hb1 (some g))
    have hc1 := (blk_cell hbk1 (3 + i)).trans (bookCells_left _ _ _ _ _ _ i hi)
    have hf1 := blk_frozen hbk1 (3 + i)
    have HBK1 := Aside0.mk hbk1
    have HGR := Aside0.mk hgr
    clear hbk1 hgr hb1
    by_cases hmin : rd left i < rest
    · go_wp2
      go_quiet (fail)
      go_wp2
      go_region
      go_wp2
      go_ret
      rw [mn_lt hmin]
      refine ⟨rfl, grownBy_setCell (grownBy_drewN HGR.out _) _ _, (blk_set (blk_drewN HBK1.out _) _ _).trans ?_⟩
      rw [bookCells_set _ _ _ _ _ _ i hi _ hl, Int.toNat_natCast, Int.sub_self]
    · go_wp2
      go_quiet (fail)
      go_wp2
      go_region
      go_wp2
      go_ret
      rw [mn_ge (by omega)]
      refine ⟨rfl, grownBy_setCell (grownBy_drewN HGR.out _) _ _, (blk_set (blk_drewN HBK1.out _) _ _).trans ?_⟩
      rw [bookCells_set _ _ _ _ _ _ i hi _ hl, Int.toNat_natCast]
end Go.Proofs.YtegpepnmnlockaaDoor.PL
namespace Go.Proofs.YtegpepnmnlockaaDoor.PL
open Go.RowKit Go.Proofs.YtegpepnmnlockaaDoorW.PrintWords Go.Proofs.YtegpepnmnlockaaDoorW.PrintLast Go.Proofs.YtegpepnmnlockaaDoorW.PrintMore
set_option linter.unusedVariables false
/-- A kind whose elements are told by their cells alone. -/
structure Flat {α : Type} (d : Kd α) (enc : α → List Value) : Prop where
  len : ∀ x, (enc x).length = d.sz
  pos : 0 < d.sz
  K : ∀ {w : World} {x : α} {cs : List Value}, d.K w x cs → cs = enc x
  M : ∀ (w : World) (base : Nat) (ok : Nat → Prop) (x : α), d.M w base ok x (enc x)
  one : ∀ x, ∀ u ∈ enc x, u.oneCell' = true
section
variable {α : Type} {d : Kd α} {enc : α → List Value}
theorem Flat.reps (F : Flat d enc) : ∀ xs : List α, Reps (fun p c => c = enc p) d.sz xs (xs.flatMap enc) := by
  intro xs
  induction xs with
  | nil => exact Reps.none _ _
  | cons x xs ih =>
    refine ⟨by rw [List.flatMap_cons, List.length_append, F.len, ih.1, List.length_cons, Nat.succ_mul, Nat.add_comm], fun j p hp => ?_⟩
    cases j with
    | zero =>
      simp only [List.getElem?_cons_zero, Option.some.injEq] at hp
      subst hp
      rw [Nat.zero_mul, List.drop_zero, List.flatMap_cons, ← F.len x, List.take_left]
    | succ j =>
      simp only [List.getElem?_cons_succ] at hp
      rw [← ih.2 j p hp, List.flatMap_cons, Nat.succ_mul, Nat.add_comm (j * d.sz), ← F.len x, ← List.drop_drop, List.drop_left, F.len x]
theorem Flat.cells (F : Flat d enc) {w : World} {ad : Addr} {n : Nat} {xs : List α} (h : Kd.C d w (some ad) n xs) : ∀ j u, (xs.flatMap enc)[j]? = some u → w.cell? (ad.add j) = some u := by
  intro j u hu
  have hr := F.reps xs
  have hj : j < xs.length * d.sz := by rw [← hr.1]; exact (List.getElem?_eq_some_iff.1 hu).1
  have hq : j / d.sz < xs.length := Nat.div_lt_of_lt_mul (by rw [Nat.mul_comm]; exact hj)
  have hn : 0 < n := Nat.lt_of_le_of_lt (Nat.zero_le _) (h.1 ▸ hq)
  obtain ⟨ad', e, hc⟩ := h.2.2 hn
  cases e
  obtain ⟨c, hl, hk, hcell⟩ := hc _ _ (List.getElem?_eq_getElem hq)
  have hcs := F.K hk
  subst hcs
  have h2 := hr.2 _ _ (List.getElem?_eq_getElem hq)
  have hdm : j / d.sz * d.sz + j % d.sz = j := by rw [Nat.mul_comm]; exact Nat.div_add_mod j d.sz
  have hlt := Nat.mod_lt j F.pos
  have h3 : (enc xs[j / d.sz])[j % d.sz]? = some u := by
    rw [← h2, List.getElem?_take, if_pos hlt, List.getElem?_drop, hdm]
    exact hu
  have := hcell _ _ h3
  rwa [hdm] at this
theorem Flat.R (F : Flat d enc) {e : Nat} {w : World} {base : Nat} {v : Value} {xs : List α} (h : w.ownsRow base e d.sz v xs.length (xs.flatMap enc)) (ok : Nat → Prop) (hok : ∀ k, v.ownBlock = some k → ok k) : d.R e w base ok v xs :=
  ⟨hok, _, h, (F.reps xs).imp_ (fun p c hc => by rw [hc]; exact F.M _ _ _ _)⟩
theorem Flat.olds (F : Flat d enc) (xs : List α) : (xs.flatMap enc).length = xs.length * d.sz := (F.reps xs).1
/-- 'append(xs[:n:n], y)' as a step of a region that draws: a new row. -/
theorem step_append_full {P : Program} {ops : Array Oper} {o : Oper} {a : Act} {w : World} {K : Act → World → Prop} {Q : Exit → Act → World → Prop} {E : Prop} (F : Flat d enc)
    (hw : Region.wanted o (yielded ops a.tmps) = true) (s x : Operand) (t : TypeId) (hop : o.op = Op.call { callee := Callee.builtin Builtin.append, args := #[s, x], argTypes := #[t, t] })
    (e : TypeId) (z : Value) (bytes : Nat) (h1 : P.underlying t = some (.slice e)) (hinfo : (P.info? e).map (fun i => (i.zero, i.size, i.bytes)) = some (some z, d.sz, bytes)) (h6 : z.cells.size = d.sz)
    (ao : Option Addr) (n : Nat) (xs : List α) (hs : a.eval s = .slice ao n n) (hC : Kd.C d w ao n xs) 
    (ad : Addr) (y : α) (hx : a.eval x = .slice (some ad) 1 1) (hc : ∀ j u, (enc y)[j]? = some u → w.cell? (ad.add j) = some u) (b1 : n + 1 ≤ maxLen) (b2 : (n + 1) * bytes ≤ 140737488355328)
    (hK : ∀ v' w', d.R e w' w.heap.size (fun _ => True) v' (xs ++ [y]) → w.grownBy w' none → K (a.put o.dst v') w') :
    if Region.wanted o (yielded ops a.tmps) = true then Oper.wp P o a w K Q else E := by
  obtain ⟨i, hi, hzz⟩ := Option.map_eq_some_iff.1 hinfo
  simp only [Prod.mk.injEq] at hzz
  obtain ⟨hz0, hz1, hz2⟩ := hzz
  have hnl : xs.length = n := hC.1
  rw [if_pos hw]
  have fin : ∀ v' w', w'.ownsRow w.heap.size e d.sz v' (n + 1) (xs.flatMap enc ++ enc y) → d.R e w' w.heap.size (fun _ => True) v' (xs ++ [y]) := fun v' w' ho =>
    F.R (by rw [List.length_append, List.length_singleton, hnl, List.flatMap_append, List.flatMap_cons, List.flatMap_nil, List.append_nil]; exact ho) _ (fun _ _ => trivial)
  have hol : (xs.flatMap enc).length = n * d.sz := by rw [F.olds, hnl]
  cases ao with
  | some b =>
    obtain ⟨v', w', hrun, r1, r2⟩ := run_append_arg_grows (P := P) w t o.type e i z d.sz bytes h1 hi hz0 hz1 hz2 h6 F.pos b n n (xs.flatMap enc) hol (F.cells hC) ad 1 1 (enc y) (by rw [F.len, Nat.one_mul]) hc (by omega) b1 b2
    unfold Oper.wp
    simp [execOp, hop, resolve, invoke, builtin, hs, hx, hrun, Result.andThen]
    exact hK v' w' (fin v' w' r1) r2
  | none =>
    have h0 : n = 0 := by
      rcases Nat.eq_zero_or_pos n with h0 | h0
      · exact h0
      · obtain ⟨ad, h, _⟩ := hC.2.2 h0
        cases h
    subst h0
    obtain rfl : xs = [] := List.eq_nil_of_length_eq_zero hnl
    obtain ⟨v', w', hrun, r1, r2, _⟩ := run_append_own (P := P) w w.heap.size t o.type e i z d.sz bytes h1 hi hz0 hz1 hz2 h6 F.pos (.slice none 0 0) 0 [] (World.ownsRow_nil w _ e d.sz) ad 1 1 (enc y) (by rw [F.len, Nat.one_mul]) hc (F.one y) b1 b2 (Nat.le_refl _)
    unfold Oper.wp
    simp [execOp, hop, resolve, invoke, builtin, hs, hx, hrun, Result.andThen]
    exact hK v' w' (fin v' w' r1) r2
end
def enc49 (x : S49) : List Value := [.int .i64 x.f0, .int .i64 x.f1, .int .i64 x.f2, .int .i64 x.f3]
theorem flat49 : Flat k49 enc49 where
  len := fun _ => rfl
  pos := by decide
  K := k49_open
  M := fun w base ok x => k49_mkM w base ok x
  one := fun x u hu => by
    simp only [enc49, List.mem_cons, List.not_mem_nil, or_false] at hu
    rcases hu with rfl | rfl | rfl | rfl <;> rfl
end Go.Proofs.YtegpepnmnlockaaDoor.PL
namespace Go.Proofs.YtegpepnmnlockaaDoor.PL
open Go.RowKit Go.Proofs.YtegpepnmnlockaaDoorW.PrintWords Go.Proofs.YtegpepnmnlockaaDoorW.PrintLast Go.Proofs.YtegpepnmnlockaaDoorW.PrintMore
attribute [local go_sem] max2_int min2_int max_two min_two max_three min_three max_four min_four
attribute [local go_sem ↓] Go.wp_at_zero Go.wp_at_succ
set_option linter.unusedVariables false
set_option linter.unusedSimpArgs false
theorem below_grown_none {w W w2 : World} (h : Below w.heap.size w W) (hg : W.grownBy w2 none) : Below w.heap.size w w2 := pw_below_grown h none h.size hg (by simp)
theorem snoc_bd {sh : List S49} {m : Nat} (h : ∀ s ∈ sh, 0 ≤ s.f2 ∧ s.f2 ≤ 20) (hm : m ≤ 20) : ∀ s ∈ sh ++ [(⟨0, 0, (m : Int), 0⟩ : S49)], 0 ≤ s.f2 ∧ s.f2 ≤ 20 := by
  intro s hs
  rcases List.mem_append.1 hs with hs | hs
  · exact h s hs
  · rw [List.mem_singleton.1 hs]
    dsimp only
    omega
/-- The greatest number, at most n, with which the list of a good can be kept. -/
def listedF (l1 : List S47) (good : Int) (sh : List S49) (F : Int → Int → Int) : Nat → Nat
  | 0 => 0
  | n + 1 => if keptF l1 good (sh ++ [⟨0, 0, ((n + 1 : Nat) : Int), 0⟩]) F = true then n + 1 else listedF l1 good sh F n
set_option maxHeartbeats 8000000 in
set_option maxRecDepth 100000 in
theorem listed_calls (g mb n : Nat) (S D : Value) (A1 : Option Addr) (c1 : Nat) (l1 : List S47) (left : List Int) (F : Int → Int → Int) (As : Option Addr) (cs : Nat) (sh : List S49) (ord good many til ins : Int) (rest : Nat) (w : World)
    (hb : w.heap[g]? = some (.cells (bookCells S (.slice A1 l1.length c1) D left mb (.slice As sh.length cs)) 86 (0, 0)))
    (hm : SpotMap w mb n F) (h1 : Kd.C k47 w A1 l1.length l1) (hc1 : l1.length ≤ c1) (h2 : Kd.C k49 w As sh.length sh) (hc2 : sh.length ≤ cs)
    (hlen : sh.length + 1 ≤ l1.length) (hl : sh.length + 1 ≤ 10) (hs : ∀ s ∈ sh, 0 ≤ s.f2 ∧ s.f2 ≤ 20) (hg : 0 ≤ good ∧ good ≤ 4) (hr : rest ≤ 20) :
    Calls Tryd.prog 122 #[.pointer (some ⟨g, 0, none⟩), .agg #[.int .i64 ord, .int .i64 good, .int .i64 many, .int .i64 til, .int .i64 ins], .int .i64 rest] w fun e w' =>
      e = .returned (.int .i64 (listedF l1 good sh F rest)) ∧ Below w.heap.size w w' := by
  have HBK := Aside0.mk hb; clear hb
  have HM := Aside0.mk hm; clear hm
  have HR1 := Aside0.mk h1; clear h1
  have HR2 := Aside0.mk h2; clear h2
  have HS := Aside0.mk hs; clear hs
  have hu47 := Tryd.underlying47
  go_enter Tryd.func122, Tryd.ntmps122
  go_wp2
  go_loopw [7] (fun v wr => ∃ m : Nat, m ≤ rest ∧ v = .int .i64 m ∧ Aside0 (listedF l1 good sh F m = listedF l1 good sh F rest) ∧ wr.cell? ⟨w.heap.size, 1, none⟩ = some (.int .i64 good) ∧ Below w.heap.size w wr) (fun v _ => (intOf v).toNat)
  case atStart => exact ⟨rest, Nat.le_refl _, rfl, ⟨rfl⟩, by simp, (Below.refl _ _).alloc (Nat.le_refl _) _⟩
  case round =>
    obtain ⟨m, hm, rfl, HL, hcg, HB⟩ := hrel
    cases m with
    | zero =>
      have hd : decide ((0 : Int) < ((0 : Nat) : Int)) = false := by simp
      go_wp2
      go_quiet (fail)
      go_wp2
      go_ret
      exact ⟨by rw [← HL.out]; rfl, pw_below_drewN HB _⟩
    | succ m =>
      have hd : decide ((0 : Int) < ((m + 1 : Nat) : Int)) = true := by simp
      have hc9 : wr.cell? ⟨g, 9, none⟩ = some (.slice As sh.length cs) := (blk_cell (blk_below HBK.out HB) 9).trans rfl
      have HBW := Aside0.mk HB
      have i1 : (0 : Int) ≤ (sh.length : Int) := by omega
      have i2 : (sh.length : Int) ≤ (cs : Int) := by omega
      by_cases hk : keptF l1 good (sh ++ [⟨0, 0, ((m + 1 : Nat) : Int), 0⟩]) F = true
      · have HL' := Aside0.mk (show listedF l1 good sh F rest = m + 1 by rw [← HL.out, listedF, if_pos hk])
        have HKK := Aside0.mk (show keptF l1 good (sh ++ [⟨0, 0, (m : Int) + 1, 0⟩]) F = true from hk)
        clear hk
        go_wp2
        go_region_held3 (fun W => W.cell? ⟨w.heap.size, 1, none⟩ = some (.int .i64 good) ∧ W.cell? ⟨g, 9, none⟩ = some (.slice As sh.length cs)) (go_keep)
          ((first
            | (refine step_append_full flat49 (by rfl) (.tmp 29) (.tmp 32) 42 (by rfl) 49 (.agg #[.int .i64 0, .int .i64 0, .int .i64 0, .int .i64 0]) 32 Tryd.underlying42 info49 rfl _ sh.length sh (by rfl) (Kd.C_below HR2.out (below_alloc (below_drew HBW.out) _)) _ ⟨0, 0, ((m + 1 : Nat) : Int), 0⟩ (by rfl) (World.news_of_block (heap_alloc_new _ _)) (by simp only [maxLen]; omega) (by omega) ?_; intro v2 w2 HR3 hg2; have q1 := World.grownBy.cell hg2 (a := ⟨w.heap.size, 1, none⟩) (v := .int .i64 good) (by simp [*]) (by simp); have q2 := World.grownBy.cell hg2 (a := ⟨g, 9, none⟩) (v := .slice As sh.length cs) (by simp [*, World.cell?_alloc_some]) (by simp); have HB2 := Aside0.mk (below_grown_none (below_alloc (below_drew HBW.out) _) hg2); obtain ⟨A2, c2, rfl, hle2, hC2⟩ := Kd.R_reads HR3; have HC2 := Aside0.mk hC2; clear hC2 hg2 HR3)
            | (go_at_call 58; (with_reducible refine (kept_calls' g mb n S D _ A1 c1 l1 left F good _ _ _ (sh ++ [⟨0, 0, ((m + 1 : Nat) : Int), 0⟩]) _ (by simp) (blk_below HBK.out HB2.out) (HM.out.below HB2.out) (Kd.C_below HR1.out HB2.out) hc1 HC2.out hle2 (by simp; omega) (by simp; omega) (snoc_bd HS.out (by omega)) hg).mono ?_); rintro e w3 ⟨rfl, hb3⟩; have q3 := pw_cell_below hb3 (a := ⟨w.heap.size, 1, none⟩) (v := .int .i64 good) (by simp [*]); have q4 := pw_cell_below hb3 (a := ⟨g, 9, none⟩) (v := .slice As sh.length cs) (by simp [*]))))
        rw [HKK.out]
        go_wp2
        go_ret
        exact ⟨by rw [HL'.out]; rfl, below_then HB2.out HB2.out.size hb3⟩
      · have HL' := Aside0.mk (show listedF l1 good sh F m = listedF l1 good sh F rest by rw [← HL.out, listedF, if_neg hk])
        have HKK := Aside0.mk (show keptF l1 good (sh ++ [⟨0, 0, (m : Int) + 1, 0⟩]) F = false from Bool.eq_false_iff.2 hk)
        clear hk
        go_wp2
        go_region_held3 (fun W => W.cell? ⟨w.heap.size, 1, none⟩ = some (.int .i64 good) ∧ W.cell? ⟨g, 9, none⟩ = some (.slice As sh.length cs)) (go_keep)
          ((first
            | (refine step_append_full flat49 (by rfl) (.tmp 29) (.tmp 32) 42 (by rfl) 49 (.agg #[.int .i64 0, .int .i64 0, .int .i64 0, .int .i64 0]) 32 Tryd.underlying42 info49 rfl _ sh.length sh (by rfl) (Kd.C_below HR2.out (below_alloc (below_drew HBW.out) _)) _ ⟨0, 0, ((m + 1 : Nat) : Int), 0⟩ (by rfl) (World.news_of_block (heap_alloc_new _ _)) (by simp only [maxLen]; omega) (by omega) ?_; intro v2 w2 HR3 hg2; have q1 := World.grownBy.cell hg2 (a := ⟨w.heap.size, 1, none⟩) (v := .int .i64 good) (by simp [*]) (by simp); have q2 := World.grownBy.cell hg2 (a := ⟨g, 9, none⟩) (v := .slice As sh.length cs) (by simp [*, World.cell?_alloc_some]) (by simp); have HB2 := Aside0.mk (below_grown_none (below_alloc (below_drew HBW.out) _) hg2); obtain ⟨A2, c2, rfl, hle2, hC2⟩ := Kd.R_reads HR3; have HC2 := Aside0.mk hC2; clear hC2 hg2 HR3)
            | (go_at_call 58; (with_reducible refine (kept_calls' g mb n S D _ A1 c1 l1 left F good _ _ _ (sh ++ [⟨0, 0, ((m + 1 : Nat) : Int), 0⟩]) _ (by simp) (blk_below HBK.out HB2.out) (HM.out.below HB2.out) (Kd.C_below HR1.out HB2.out) hc1 HC2.out hle2 (by simp; omega) (by simp; omega) (snoc_bd HS.out (by omega)) hg).mono ?_); rintro e w3 ⟨rfl, hb3⟩; have q3 := pw_cell_below hb3 (a := ⟨w.heap.size, 1, none⟩) (v := .int .i64 good) (by simp [*]); have q4 := pw_cell_below hb3 (a := ⟨g, 9, none⟩) (v := .slice As sh.length cs) (by simp [*]))))
        rw [HKK.out]
        go_wp2
        go_roundw
        case rel => exact ⟨m, by omega, by first | rfl | go_num, HL', q3, below_then HB2.out HB2.out.size hb3⟩
        case measure => simp [intOf]
end Go.Proofs.YtegpepnmnlockaaDoor.PL
namespace Go.Proofs.YtegpepnmnlockaaDoor.PL
open Go.RowKit Go.Proofs.YtegpepnmnlockaaDoorW.PrintWords Go.Proofs.YtegpepnmnlockaaDoorW.PrintLast Go.Proofs.YtegpepnmnlockaaDoorW.PrintMore
attribute [local go_sem] max2_int min2_int max_two min_two max_three min_three max_four min_four
attribute [local go_sem ↓] Go.wp_at_zero Go.wp_at_succ
set_option linter.unusedVariables false
set_option linter.unusedSimpArgs false
theorem sum_two (a b : Int) (ha : 0 ≤ a ∧ a ≤ 1000) (hb : 0 ≤ b ∧ b ≤ 1000) : lack_sum_int.f 3 [a, b] = some (a + b) := by
  have e1 : wrap64 (0 + a) = a := by unfold wrap64; omega
  have e2 : wrap64 (a + b) = a + b := by unfold wrap64; omega
  have e4 : wrap64 (1 + 1) = 2 := by unfold wrap64; omega
  have e5 : wrap64 a = a := by unfold wrap64; omega
  have e6 : wrap64 1 = 1 := by unfold wrap64; omega
  have e7 : wrap64 2 = 2 := by unfold wrap64; omega
  simp [lack_sum_int.f, lack_sum_int.l0, rd, e1, e2, e4, e5, e6, e7]
/-- What surely comes of the goods by the days, of the first i deliveries; and so much of the next one as is told for the days before x. -/
def comTo (l2 : List S57) : Nat → Int → Int → Int
  | 0, _, _ => 0
  | i + 1, g, d => comTo l2 i g d + if (rd_T57 l2 i).f0 = g ∧ (rd_T57 l2 i).f1.f1 ≤ d ∧ d ≤ 100 then (rd_T57 l2 i).f2.f0 else 0
def comPart (l2 : List S57) (i : Nat) (x : Int) (g d : Int) : Int := comTo l2 i g d + if (rd_T57 l2 i).f0 = g ∧ (rd_T57 l2 i).f1.f1 ≤ d ∧ d < x ∧ d ≤ 100 then (rd_T57 l2 i).f2.f0 else 0
theorem comPart_begin (l2 : List S57) (i : Nat) : comPart l2 i (rd_T57 l2 i).f1.f1 = comTo l2 i := by
  funext g d
  unfold comPart
  rw [if_neg (by omega)]
  omega
theorem comPart_end (l2 : List S57) (i : Nat) (x : Int) (hx : 100 < x) : comPart l2 i x = comTo l2 (i + 1) := by
  funext g d
  show comTo l2 i g d + _ = comTo l2 i g d + _
  congr 1
  by_cases c : (rd_T57 l2 i).f0 = g ∧ (rd_T57 l2 i).f1.f1 ≤ d ∧ d ≤ 100
  · rw [if_pos c, if_pos ⟨c.1, c.2.1, by omega, c.2.2⟩]
  · rw [if_neg c, if_neg (fun h => c ⟨h.1, h.2.1, h.2.2.2⟩)]
theorem comPart_step (l2 : List S57) (i : Nat) (x v : Int) (hx : x ≤ 100) (hh : (rd_T57 l2 i).f1.f1 ≤ x) (hv : v = comPart l2 i x (rd_T57 l2 i).f0 x + (rd_T57 l2 i).f2.f0) :
    (fun g d => if g = (rd_T57 l2 i).f0 ∧ d = x then v else comPart l2 i x g d) = comPart l2 i (x + 1) := by
  funext g d
  by_cases c : g = (rd_T57 l2 i).f0 ∧ d = x
  · obtain ⟨rfl, rfl⟩ := c
    rw [if_pos ⟨rfl, rfl⟩, hv]
    unfold comPart
    rw [if_neg (by omega), if_pos ⟨rfl, hh, by omega, hx⟩]
    omega
  · rw [if_neg c]
    unfold comPart
    congr 1
    by_cases e : (rd_T57 l2 i).f0 = g ∧ (rd_T57 l2 i).f1.f1 ≤ d ∧ d < x ∧ d ≤ 100
    · rw [if_pos e, if_pos ⟨e.1, e.2.1, by omega, e.2.2.2⟩]
    · rw [if_neg e, if_neg]
      rintro ⟨h1, h2, h3, h4⟩
      exact e ⟨h1, h2, by by_cases h : d < x; exact h; exact absurd ⟨h1.symm, by omega⟩ c, h4⟩
/-- What the walk asks of deliveries. -/
def OkDel (y : S57) : Prop := 0 ≤ y.f0 ∧ y.f0 ≤ 4 ∧ 1 ≤ y.f1.f1 ∧ y.f1.f1 ≤ 300 ∧ 0 ≤ y.f2.f0 ∧ y.f2.f0 ≤ 50
theorem rdmem57 {P : S57 → Prop} {l : List S57} (hs : ∀ s ∈ l, P s) {i : Nat} (h : i < l.length) : P (rd_T57 l i) := by
  unfold rd_T57
  rw [Int.toNat_natCast, List.getD_eq_getElem?_getD, List.getElem?_eq_getElem h]
  exact hs _ (List.getElem_mem _)
theorem comTo_bd {l2 : List S57} (h : ∀ y ∈ l2, OkDel y) (g d : Int) : ∀ i : Nat, i ≤ l2.length → 0 ≤ comTo l2 i g d ∧ comTo l2 i g d ≤ 50 * (i : Int)
  | 0, _ => by simp [comTo]
  | i + 1, hi => by
    have ih := comTo_bd h g d i (by omega)
    obtain ⟨_, _, _, _, h5, h6⟩ := rdmem57 h (i := i) (by omega)
    unfold comTo
    split <;> omega
theorem reads_two (W : World) (a b : Int) : Kd.C (Kd.int .i64) (W.alloc (.cells #[.int .i64 a, .int .i64 b] 3)) (some ⟨W.heap.size, 0, none⟩) [a, b].length [a, b] := by
  have h := own_lit W W.heap.size 3 .i64 [a, b] (Nat.le_refl _) (by simp)
  obtain ⟨A, c, e, hr⟩ := own_reads h
  simp only [Value.slice.injEq] at e
  obtain ⟨rfl, _, rfl⟩ := e
  exact Kd.C_of_reads (d := (0 : Int)) (h1 := fun _ => rfl) hr
theorem sum2_calls (A : Option Addr) (c : Nat) (a b : Int) (w : World) (hr : Kd.C (Kd.int .i64) w A 2 [a, b]) (hc : 2 ≤ c) (ha : 0 ≤ a ∧ a ≤ 1000) (hb : 0 ≤ b ∧ b ≤ 1000) :
    Calls Tryd.prog 81 #[.slice A 2 c] w fun e w' => e = .returned (.int .i64 (a + b)) ∧ Drawn0 w w' := lack_sum_int.calls 3 A c [a, b] _ w hr hc (sum_two a b ha hb)
theorem SpotMap.drew {w : World} {b n : Nat} {F : Int → Int → Int} (h : SpotMap w b n F) : SpotMap w.drew b n F := h
theorem comPart_bd {l2 : List S57} (h : ∀ y ∈ l2, OkDel y) {i : Nat} (hi : i < l2.length) (x g d : Int) : 0 ≤ comPart l2 i x g d ∧ comPart l2 i x g d ≤ 50 * (i : Int) + 50 := by
  have ih := comTo_bd h g d i (by omega)
  obtain ⟨_, _, _, _, h5, h6⟩ := rdmem57 h hi
  unfold comPart
  split <;> omega
set_option maxHeartbeats 8000000 in
set_option maxRecDepth 100000 in
theorem coming_calls (A : Option Addr) (c : Nat) (l2 : List S57) (w : World) (h2 : Kd.C k57 w A l2.length l2) (hc : l2.length ≤ c) (hok : ∀ y ∈ l2, OkDel y) (hl : l2.length ≤ 6) :
    Calls Tryd.prog 75 #[.slice A l2.length c] w fun e w' => ∃ mb n, e = .returned (.map (some mb)) ∧ w.heap.size ≤ mb ∧ n ≤ 1000 ∧ SpotMap w' mb n (comTo l2 l2.length) ∧ Below w.heap.size w w' := by
  have HR := Aside0.mk h2; clear h2
  have HOK := Aside0.mk hok; clear hok
  have hmm := @run_makeMap Tryd.prog
  have hu57 := Tryd.underlying57
  go_enter Tryd.func75, Tryd.ntmps75
  go_wp2
  clear hmm
  go_loopw [10] (fun v wr => ∃ i n : Nat, i ≤ l2.length ∧ n ≤ 150 * i ∧ v = .int .i64 i ∧ Aside0 (SpotMap wr w.heap.size n (comTo l2 i)) ∧ Below w.heap.size w wr) (fun v _ => l2.length - (intOf v).toNat)
  case atStart => exact ⟨0, 0, by omega, by omega, rfl, ⟨SpotMap.made w⟩, (Below.refl _ _).alloc (Nat.le_refl _) _⟩
  case round =>
    obtain ⟨wo, rfl⟩ : ∃ wo : World, wo = wr := ⟨_, rfl⟩
    obtain ⟨i, n, hi, hn, rfl, HM, HB⟩ := hrel
    by_cases hlt : i < l2.length
    · obtain ⟨ad, e1, p0, p1, p2, p3, p4⟩ := at_T57 (Kd.C_below HR.out HB) i (by omega) (by omega)
      cases e1
      simp only [Int.toNat_natCast] at p0 p1 p2 p3 p4
      go_wp2
      have hok := rdmem57 HOK.out hlt
      obtain ⟨k1, k2, k3, k4, k5, k6⟩ := hok
      have HB1 := Aside0.mk (below_alloc HB (.cells #[.int .i64 (rd_T57 l2 i).f0, .int .i64 (rd_T57 l2 i).f1.f0, .int .i64 (rd_T57 l2 i).f1.f1, .int .i64 (rd_T57 l2 i).f2.f0, .int .i64 (rd_T57 l2 i).f2.f1] 57))
      have HM1 := Aside0.mk (HM.out.below (below_alloc (Below.refl _ _) (.cells #[.int .i64 (rd_T57 l2 i).f0, .int .i64 (rd_T57 l2 i).f1.f0, .int .i64 (rd_T57 l2 i).f1.f1, .int .i64 (rd_T57 l2 i).f2.f0, .int .i64 (rd_T57 l2 i).f2.f1] 57)))
      have hbx : w.heap.size ≤ wo.heap.size := HB.size
      have hmb : w.heap.size < wo.heap.size := HM.out.lt
      have HBW := Aside0.mk HB
      clear HB HM p0 p1 p2 p3 p4
      go_loopw [6] (fun v wi => ∃ (x : Int) (n' : Nat), v = .int .i64 x ∧ (rd_T57 l2 i).f1.f1 ≤ x ∧ (x ≤ 101 ∨ x = (rd_T57 l2 i).f1.f1) ∧ (n' : Int) ≤ n + (x - (rd_T57 l2 i).f1.f1) ∧ Aside0 (SpotMap wi w.heap.size n' (comPart l2 i x)) ∧ wi.cell? ⟨wo.heap.size, 0, none⟩ = some (.int .i64 (rd_T57 l2 i).f0) ∧ wi.cell? ⟨wo.heap.size, 3, none⟩ = some (.int .i64 (rd_T57 l2 i).f2.f0) ∧ Below w.heap.size w wi) (fun v _ => (101 - intOf v).toNat)
      case atStart => exact ⟨_, n, rfl, Int.le_refl _, .inr rfl, by omega, ⟨by rw [comPart_begin]; exact HM1.out⟩, by simp, by simp, HB1.out⟩
      case round =>
        obtain ⟨x, n', rfl, hx1, hx2, hn', HMi, hc0, hc3, HBi⟩ := hrel
        by_cases hx : x ≤ 100
        · have hv := comPart_bd HOK.out hlt x (rd_T57 l2 i).f0 x
          have hlk := SpotMap.look (SpotMap.drew HMi.out) (g := (rd_T57 l2 i).f0) (d := x) (wf64 (by omega) (by omega)) (wf64 (by omega) (by omega))
          unfold spotV at hlk
          have hbo : wo.heap.size < wr.heap.size := World.block_lt_of_cell? wr _ hc0
          go_wp2
          go_region_held3 (fun W => W.cell? ⟨wo.heap.size, 0, none⟩ = some (.int .i64 (rd_T57 l2 i).f0) ∧ W.cell? ⟨wo.heap.size, 3, none⟩ = some (.int .i64 (rd_T57 l2 i).f2.f0)) (go_keep)
            ((go_at_call 81; (with_reducible refine (sum2_calls _ _ (comPart l2 i x (rd_T57 l2 i).f0 x) (rd_T57 l2 i).f2.f0 _ (Kd.C_below (reads_two wr _ _) (below_drew (Below.refl _ _))) (Nat.le_refl _) (by omega) (by omega)).mono ?_); rintro e w2 ⟨rfl, hD⟩; have hbw2 := hD.below; have hbw := Aside0.mk (below_then (below_drew (below_alloc (Below.refl wr.heap.size wr) _)) (by simp) hbw2); have q0 := pw_cell_below hbw.out hc0; have q3 := pw_cell_below hbw.out hc3; obtain ⟨w3, hrun, hm3, hg3⟩ := SpotMap.store (HMi.out.below hbw.out) (by simp only [maxLen]; omega) (g := (rd_T57 l2 i).f0) (d := x) (v := comPart l2 i x (rd_T57 l2 i).f0 x + (rd_T57 l2 i).f2.f0) (wf64 (by omega) (by omega)) (wf64 (by omega) (by omega)) (wf64 (by omega) (by omega)); have r0 := World.grownBy.cell hg3 q0 (by simp; omega); have r3 := World.grownBy.cell hg3 q3 (by simp; omega); unfold spotV at hrun; have HM3 := Aside0.mk hm3; have HG3 := Aside0.mk hg3; clear hm3 hg3 hD hbw2))
          go_wp2
          go_roundw
          case rel =>
            refine ⟨x + 1, n' + 1, rfl, by omega, by omega, by omega, ⟨?_⟩, r0, r3, pw_below_grown (below_then HBi HBi.size hbw.out) _ (Nat.le_trans HBi.size hbw.out.size) HG3.out (fun k hk => by cases hk; exact Nat.le_refl _)⟩
            rw [← comPart_step l2 i x _ hx hx1 rfl]; exact HM3.out
          case measure => simp [intOf]; omega
        · go_wp2
          go_roundw
          case rel => exact ⟨i + 1, n', by omega, by omega, by go_num, ⟨by rw [← comPart_end l2 i x (by omega)]; exact HMi.out⟩, HBi⟩
          case measure => simp [intOf]; omega
    · go_wp2
      go_ret
      obtain rfl : i = l2.length := by omega
      exact ⟨_, n, rfl, Nat.le_refl _, by omega, HM.out, HB⟩
end Go.Proofs.YtegpepnmnlockaaDoor.PL
namespace Go.Proofs.YtegpepnmnlockaaDoor
open Go
section
variable {P : Program} {ops : Array Oper} {o : Oper} {Q : Exit → Act → World → Prop} {md : Region.Mode}
/-- What is left behind all but the last: the last one. -/
def lastQ (P : Program) (full : Array Oper) (n : Nat) (Q : Exit → Act → World → Prop) : Exit → Act → World → Prop
  | .normal, a, w => wpOp P full Q n (fun a w => Q .normal a w) a w
  | e, a, w => Q e a w
/-- The last one waits for all, itself or by others; each of the others only for elder ones; guards are elder ones. -/
def lastB (md : Region.Mode) (ops : Array Oper) (o : Oper) : Bool :=
  (List.range ops.size).all (fun j => (o.after.any fun e => Region.binds md e && e.on == j) || (List.range ops.size).any fun i => decide (j < i) && match ops[i]? with | some oi => oi.after.any (fun e => Region.binds md e && e.on == j) | none => false) &&
  (List.range ops.size).all (fun j => match ops[j]? with
    | some oj => oj.after.all (fun e => decide (e.on < j)) && (match oj.guard with | some (g, _) => decide (g < ops.size) | none => true)
    | none => true) && o.guard.isNone && o.after.all (fun e => decide (e.on < ops.size))
theorem getElem?_push_lt' {i : Nat} (h : i < ops.size) : (ops.push o)[i]? = ops[i]? := by
  rw [Array.getElem?_push]
  simp [Nat.ne_of_lt h]
theorem getD_push_lt {l : Array Bool} {i : Nat} (h : i < l.size) (d : Bool) : (l.push false).getD i d = l.getD i d := by
  simp only [Array.getD_eq_getD_getElem?, Array.getElem?_push]
  simp [Nat.ne_of_lt h]
theorem wpOp_push {i : Nat} {oi : Oper} (hi : ops[i]? = some oi) (hg : ∀ g b, oi.guard = some (g, b) → g < ops.size) {K : Act → World → Prop} {a : Act} {w : World} {n : Nat} {full : Array Oper}
    (h : wpOp P ops (lastQ P full n Q) i K a w) : wpOp P (ops.push o) Q i K a w := by
  have hlt : i < ops.size := (Array.getElem?_eq_some_iff.1 hi).1
  unfold wpOp at *
  rw [getElem?_push_lt' hlt, hi]
  simp only [hi] at h
  have hy : Region.wanted oi (yielded (ops.push o) a.tmps) = Region.wanted oi (yielded ops a.tmps) := by
    unfold Region.wanted
    cases hgd : oi.guard with
    | none => rfl
    | some gw =>
      obtain ⟨g, b⟩ := gw
      have : yielded (ops.push o) a.tmps g = yielded ops a.tmps g := by
        unfold yielded
        rw [getElem?_push_lt' (hg g b hgd)]
      simp only [this]
  simp only [hy]
  split
  · rename_i hw
    rw [if_pos hw] at h
    rcases h with h | ⟨h1, h2⟩
    · refine .inl ?_
      unfold Oper.wp at *
      generalize (execOp a.eval oi).run P w = r at *
      cases r with
      | ok x w' =>
        cases x <;> simp only [Oper.upon] at h ⊢ <;> try exact h
      | halt x w' =>
        cases x <;> simp only [Oper.upon] at h ⊢
        exact h
    · exact .inr ⟨h1, h2⟩
  · rename_i hw
    rw [if_neg hw] at h
    exact h
theorem wpAny_last (hB : lastB md ops o = true) :
    ∀ (fuel : Nat) (listed : Array Bool) (a : Act) (w : World), listed.size = ops.size → (∀ (i : Nat) (oi : Oper), ops[i]? = some oi → listed.getD i false = true → ∀ e ∈ oi.after, Region.binds md e = true → listed.getD e.on false = true) → wpAny P md ops (lastQ P (ops.push o) ops.size Q) fuel listed a w →
      wpAny P md (ops.push o) Q (fuel + 1) (listed.push false) a w := by
  simp only [lastB, Bool.and_eq_true, List.all_eq_true, List.mem_range] at hB
  obtain ⟨⟨⟨h1, h2⟩, h3⟩, h4⟩ := hB
  have hwait : ∀ j, j < ops.size → (∃ e ∈ o.after, Region.binds md e = true ∧ e.on = j) ∨ ∃ i oi, j < i ∧ i < ops.size ∧ ops[i]? = some oi ∧ ∃ e ∈ oi.after, Region.binds md e = true ∧ e.on = j := fun j hj => by
    rcases Bool.or_eq_true_iff.1 (h1 j hj) with h | h
    · obtain ⟨e, he, hb⟩ := Array.any_eq_true'.1 h
      simp only [Bool.and_eq_true, beq_iff_eq] at hb
      exact .inl ⟨e, he, hb.1, hb.2⟩
    · obtain ⟨i, hi, hb⟩ := List.any_eq_true.1 h
      simp only [Bool.and_eq_true, decide_eq_true_eq] at hb
      obtain ⟨hji, hb⟩ := hb
      cases ho : ops[i]? with
      | none => rw [ho] at hb; cases hb
      | some oi =>
        rw [ho] at hb
        obtain ⟨e, he, hb⟩ := Array.any_eq_true'.1 hb
        simp only [Bool.and_eq_true, beq_iff_eq] at hb
        exact .inr ⟨i, oi, hji, List.mem_range.1 hi, ho, e, he, hb.1, hb.2⟩
  have hback : ∀ (j : Nat) (oj : Oper), ops[j]? = some oj → (∀ e ∈ oj.after, e.on < j) ∧ ∀ g b, oj.guard = some (g, b) → g < ops.size := fun j oj hj => by
    have := h2 j (Array.getElem?_eq_some_iff.1 hj).1
    simp only [hj, Bool.and_eq_true, Array.all_eq_true_iff_forall_mem, decide_eq_true_eq] at this
    refine ⟨this.1, fun g b hg => ?_⟩
    have h5 := this.2
    rw [hg] at h5
    simpa using h5
  have hfull : ∀ j, (ops.push o)[j]? = if j < ops.size then ops[j]? else if j = ops.size then some o else none := fun j => by
    rw [Array.getElem?_push]
    by_cases e : j = ops.size
    · simp [e]
    · by_cases l : j < ops.size
      · simp [e, l]
      · simp [e, l]
  -- an elder one may come up in the whole region just if it may among the others
  have hready : ∀ (listed : Array Bool), listed.size = ops.size → ∀ j, j < ops.size → (j ∈ Region.ready md (ops.push o) (listed.push false) ↔ j ∈ Region.ready md ops listed) := fun listed hs j hj => by
    rw [mem_ready, mem_ready, getD_push_lt (by omega), getElem?_push_lt' hj]
    constructor
    · rintro ⟨h0, oj, ho, hall⟩
      refine ⟨h0, oj, ho, fun e he hb => ?_⟩
      have := hall e he hb
      rwa [getD_push_lt (by have := (hback j oj ho).1 e he; omega)] at this
    · rintro ⟨h0, oj, ho, hall⟩
      refine ⟨h0, oj, ho, fun e he hb => ?_⟩
      rw [getD_push_lt (by have := (hback j oj ho).1 e he; omega)]
      exact hall e he hb
  -- where none of the others may come up, all have
  have hnone : ∀ (listed : Array Bool), listed.size = ops.size → Region.ready md ops listed = [] → ∀ j, j < ops.size → listed.getD j false = true := fun listed hs hr j => by
    induction j using Nat.strongRecOn with
    | _ j ih =>
      intro hj
      cases hl : listed.getD j false with
      | true => rfl
      | false =>
        exfalso
        have hmem : j ∈ Region.ready md ops listed := by
          rw [mem_ready]
          refine ⟨?_, ops[j], Array.getElem?_eq_getElem hj, fun e he _ => ?_⟩
          · simp only [Array.getD_eq_getD_getElem?] at hl ⊢
            rw [Array.getElem?_eq_getElem (by omega)] at hl ⊢
            exact hl
          · have := (hback j _ (Array.getElem?_eq_getElem hj)).1 e he
            exact ih e.on this (by omega)
        rw [hr] at hmem
        cases hmem
  have hlastready : ∀ (listed : Array Bool), listed.size = ops.size → (∀ j, j < ops.size → listed.getD j false = true) → ops.size ∈ Region.ready md (ops.push o) (listed.push false) := fun listed hs hall => by
    rw [mem_ready]
    refine ⟨?_, o, by simp, fun e he _ => ?_⟩
    · simp only [Array.getD_eq_getD_getElem?, Array.getElem?_push]
      simp [hs]
    · have hlt : e.on < ops.size := by
        simp only [Array.all_eq_true_iff_forall_mem, decide_eq_true_eq] at h4
        exact h4 e he
      rw [getD_push_lt (by omega)]
      exact hall _ hlt
  have hlastonly : ∀ (listed : Array Bool), listed.size = ops.size → (∀ (i : Nat) (oi : Oper), ops[i]? = some oi → listed.getD i false = true → ∀ e ∈ oi.after, Region.binds md e = true → listed.getD e.on false = true) →
      ops.size ∈ Region.ready md (ops.push o) (listed.push false) → ∀ j, j < ops.size → listed.getD j false = true := fun listed hs hcl hmem => by
    rw [mem_ready] at hmem
    obtain ⟨_, o', ho, hall⟩ := hmem
    simp only [Array.getElem?_push_size, Option.some.injEq] at ho
    subst ho
    have key : ∀ d j, ops.size - j = d → j < ops.size → listed.getD j false = true := by
      intro d
      induction d using Nat.strongRecOn with
      | _ d ih =>
        intro j hd hj
        rcases hwait j hj with ⟨e, he, hb, rfl⟩ | ⟨i, oi, hji, hi, ho, e, he, hb, rfl⟩
        · have := hall e he hb
          rwa [getD_push_lt (by omega)] at this
        · exact hcl i oi ho (ih (ops.size - i) (by omega) i rfl hi) e he hb
    exact fun j hj => key _ j rfl hj
  have hin : ∀ (listed : Array Bool) j, j ∈ Region.ready md (ops.push o) (listed.push false) → j < ops.size ∨ j = ops.size := fun listed j hj => by
    rw [mem_ready] at hj
    obtain ⟨_, o', ho, _⟩ := hj
    have := (Array.getElem?_eq_some_iff.1 ho).1
    simp at this
    omega
  -- the last step
  have hstep : ∀ (fuel : Nat) (listed : Array Bool) (a : Act) (w : World), listed.size = ops.size → (∀ j, j < ops.size → listed.getD j false = true) → lastQ P (ops.push o) ops.size Q .normal a w →
      wpOp P (ops.push o) Q ops.size (wpAny P md (ops.push o) Q fuel ((listed.push false).setIfInBounds ops.size true)) a w := fun fuel listed a w hs hall hq => by
    refine wpOp_mono (fun a' w' h' => wpAny_done ?_ h' fuel) hq
    refine List.eq_nil_iff_forall_not_mem.2 fun j hj => ?_
    rw [mem_ready] at hj
    obtain ⟨h0, o', ho, _⟩ := hj
    have hlt := (Array.getElem?_eq_some_iff.1 ho).1
    simp at hlt
    rcases Nat.lt_or_ge j ops.size with hj | hj
    · rw [getD_set_ne true (Nat.ne_of_gt hj), getD_push_lt (by omega)] at h0
      have := hall j hj
      simp only [Array.getD_eq_getD_getElem?] at this h0
      rw [Array.getElem?_eq_getElem (by omega)] at this h0
      simp at this h0
      rw [this] at h0
      cases h0
    · obtain rfl : j = ops.size := by omega
      simp [hs] at h0
  intro fuel
  induction fuel with
  | zero =>
    intro listed a w hs hcl h
    have hall := hnone listed hs h.1
    refine ⟨fun hr => (by have := hlastready listed hs hall; rw [hr] at this; cases this), fun i hi => ?_⟩
    rcases hin listed i hi with hlt | rfl
    · rw [hready listed hs i hlt, h.1] at hi
      cases hi
    · exact hstep 0 listed a w hs hall h.2
  | succ fuel ih =>
    intro listed a w hs hcl h
    refine ⟨fun hr => ?_, fun i hi => ?_⟩
    · exfalso
      by_cases hall : ∀ j, j < ops.size → listed.getD j false = true
      · have := hlastready listed hs hall
        rw [hr] at this
        cases this
      · have hne : Region.ready md ops listed ≠ [] := fun e => hall (hnone listed hs e)
        obtain ⟨j, hj⟩ := List.exists_mem_of_ne_nil _ hne
        have hj' := hj
        rw [mem_ready] at hj'
        obtain ⟨_, o', ho, _⟩ := hj'
        have hlt := (Array.getElem?_eq_some_iff.1 ho).1
        have := (hready listed hs j hlt).2 hj
        rw [hr] at this
        cases this
    · rcases hin listed i hi with hlt | rfl
      · have h5 := h.2 i ((hready listed hs i hlt).1 hi)
        have hset : (listed.push false).setIfInBounds i true = (listed.setIfInBounds i true).push false := by
          apply Array.ext_getElem?
          intro q
          simp only [Array.getElem?_setIfInBounds, Array.getElem?_push, Array.size_setIfInBounds, Array.size_push]
          by_cases e : i = q
          · subst e
            have e2 : ¬ i = listed.size := by omega
            have e3 : i < listed.size := by omega
            have e4 : i < listed.size + 1 := by omega
            simp [e2, e3, e4]
          · simp [e]
        have hcl' : ∀ (q : Nat) (oq : Oper), ops[q]? = some oq → (listed.setIfInBounds i true).getD q false = true → ∀ e ∈ oq.after, Region.binds md e = true → (listed.setIfInBounds i true).getD e.on false = true := fun q oq ho hl e he hb => by
          by_cases hq : i = q
          · subst hq
            have hm := (hready listed hs i hlt).1 hi
            rw [mem_ready] at hm
            obtain ⟨_, o', ho', hall⟩ := hm
            rw [ho] at ho'
            cases ho'
            exact getD_set_true (hall e he hb)
          · rw [getD_set_ne false hq] at hl
            exact getD_set_true (hcl q oq ho hl e he hb)
        rw [hset]
        refine wpOp_mono (fun a' w' h' => ih (listed.setIfInBounds i true) a' w' (by simp [hs]) hcl' h') ?_
        exact wpOp_push (Array.getElem?_eq_getElem hlt) (hback i _ (Array.getElem?_eq_getElem hlt)).2 h5
      · have hall := hlastonly listed hs hcl hi
        have hnil : Region.ready md ops listed = [] := by
          refine List.eq_nil_iff_forall_not_mem.2 fun j hj => ?_
          rw [mem_ready] at hj
          obtain ⟨h0, o', ho, _⟩ := hj
          have hlt := (Array.getElem?_eq_some_iff.1 ho).1
          have := hall j hlt
          simp only [Array.getD_eq_getD_getElem?] at this h0
          rw [Array.getElem?_eq_getElem (by omega)] at this h0
          simp at this h0
          rw [this] at h0
          cases h0
        exact hstep (fuel + 1) listed a w hs hall (h.1 hnil)
/-- **A region that draws its order, whose last operation waits for all**: the others under S; S need not hold behind the last. -/
theorem wp_region_last {S : World → Prop} {id : Nat} {full : Array Oper} {a : Act} {w : World} (ops : Array Oper) (o : Oper) (hfull : full = ops.push o) (hm : P.follows .mixedOrders = true) (hB : lastB .any ops o = true) (hS : S w.drew)
    (h : S w.drew → wpAnyH P .any ops (lastQ P (ops.push o) ops.size Q) S ops.size (Array.replicate ops.size false) a w.drew) : (Code.region id full true).wp P Q a w := by
  subst hfull
  refine wp_region_any hm ?_
  have e : Array.replicate (ops.push o).size false = (Array.replicate ops.size false).push false := by
    rw [Array.size_push, Array.replicate_succ]
  rw [e, Array.size_push]
  exact wpAny_last hB ops.size _ a _ (by simp) (fun i oi ho hl => by simp only [Array.getD_eq_getD_getElem?, Array.getElem?_replicate] at hl; split at hl <;> simp at hl) (wpAny_of_held _ _ _ _ (h hS))
theorem lastQ_step {full : Array Oper} {n : Nat} {o : Oper} {a : Act} {w : World} (ho : full[n]? = some o)
    (h : ∀ K' : Act → World → Prop, (∀ a w, Q .normal a w → K' a w) → if Region.wanted o (yielded full a.tmps) = true then Oper.wp P o a w K' Q else K' (a.put o.dst undef) w) : lastQ P full n Q .normal a w := wpOp_step ho h
theorem wp_region_lastP {S : World → Prop} {id : Nat} {full : Array Oper} {a : Act} {w : World} (hm : P.follows .mixedOrders = true) (hne : 0 < full.size) (hB : lastB .any full.pop (full[full.size - 1]'(by omega)) = true) (hS : S w.drew)
    (h : S w.drew → wpAnyH P .any full.pop (lastQ P full (full.size - 1) Q) S (full.size - 1) (Array.replicate (full.size - 1) false) a w.drew) : (Code.region id full true).wp P Q a w := by
  have e : full = full.pop.push (full[full.size - 1]'(by omega)) := by
    apply Array.ext
    · simp; omega
    · intro i h1 h2
      rw [Array.getElem_push]
      split
      · simp
      · have : i = full.size - 1 := by simp at *; omega
        subst this
        rfl
  refine wp_region_last (S := S) full.pop _ e hm hB hS (fun hs => ?_)
  rw [← e, Array.size_pop]
  exact h hs
end
end Go.Proofs.YtegpepnmnlockaaDoor
namespace Go.Proofs.YtegpepnmnlockaaDoor.PL
open Go.RowKit Go.Proofs.YtegpepnmnlockaaDoorW.PrintWords Go.Proofs.YtegpepnmnlockaaDoorW.PrintLast Go.Proofs.YtegpepnmnlockaaDoorW.PrintMore
attribute [local go_sem] max2_int min2_int max_two min_two max_three min_three max_four min_four
attribute [local go_sem ↓] Go.wp_at_zero Go.wp_at_succ
set_option linter.unusedVariables false
set_option linter.unusedSimpArgs false
def OkLine (x : S47) : Prop := 0 ≤ x.f1 ∧ x.f1 ≤ 4 ∧ 1 ≤ x.f2 ∧ x.f2 ≤ 20 ∧ 0 ≤ x.f3 ∧ x.f3 ≤ 100 ∧ -1 ≤ x.f4 ∧ x.f4 ≤ 4
theorem rdmem47 {P : S47 → Prop} {l : List S47} (hs : ∀ s ∈ l, P s) {i : Nat} (h : i < l.length) : P (rd_T47 l i) := by
  unfold rd_T47
  rw [Int.toNat_natCast, List.getD_eq_getElem?_getD, List.getElem?_eq_getElem h]
  exact hs _ (List.getElem_mem _)
/-- How many pieces of a line are sent; the stock then. -/
def sentF (x : S47) (left : List Int) : Int := mn x.f2 (rd left x.f1)
def left1F (x : S47) (left : List Int) : List Int := left.set x.f1.toNat (rd left x.f1 - sentF x left)
def instOf (ins rest : Int) (left : List Int) : Int := if ins < 0 then 0 else mn rest (rd left ins)
def leftOf (ins rest : Int) (left : List Int) : List Int := if ins < 0 then left else left.set ins.toNat (rd left ins - instOf ins rest left)
def instF (x : S47) (left : List Int) : Int := instOf x.f4 (x.f2 - sentF x left) (left1F x left)
def left2F (x : S47) (left : List Int) : List Int := leftOf x.f4 (x.f2 - sentF x left) (left1F x left)
def wantF (x : S47) (left : List Int) : Int := x.f2 - sentF x left - instF x left
def shareF (l1 : List S47) (F : Int → Int → Int) (x : S47) (left : List Int) (sh : List S49) : S49 :=
  ⟨sentF x left, instF x left, listedF l1 x.f1 sh F (wantF x left).toNat, wantF x left - listedF l1 x.f1 sh F (wantF x left).toNat⟩
theorem mn_bd {a b : Int} (ha : 0 ≤ a) (hb : 0 ≤ b) : 0 ≤ mn a b ∧ mn a b ≤ a ∧ mn a b ≤ b := by unfold mn; split <;> omega
theorem sentF_bd {x : S47} {left : List Int} (h : ∀ y ∈ left, 0 ≤ y ∧ y ≤ 50) (h2 : 0 ≤ x.f2) (h1 : 0 ≤ x.f1) : 0 ≤ sentF x left ∧ sentF x left ≤ x.f2 ∧ sentF x left ≤ rd left x.f1 := by
  obtain ⟨i, hi⟩ := Int.eq_ofNat_of_zero_le h1
  have := rd_bd h i
  unfold sentF
  rw [hi]
  exact mn_bd h2 this.1
/-- How the three steps go on: what is wanting still, what is in stock, how many pieces each step took. -/
theorem set_ok {left : List Int} {i : Nat} {v : Int} (h : ∀ y ∈ left, 0 ≤ y ∧ y ≤ 50) (hv : 0 ≤ v ∧ v ≤ 50) : ∀ y ∈ left.set i v, 0 ≤ y ∧ y ≤ 50 := by
  intro y hy
  rcases List.mem_or_eq_of_mem_set hy with hy | rfl
  · exact h y hy
  · exact hv
theorem left1F_ok {x : S47} {left : List Int} (h : ∀ y ∈ left, 0 ≤ y ∧ y ≤ 50) (h2 : 0 ≤ x.f2) (h1 : 0 ≤ x.f1) : ∀ y ∈ left1F x left, 0 ≤ y ∧ y ≤ 50 := by
  have hb := sentF_bd h h2 h1
  obtain ⟨i, hi⟩ := Int.eq_ofNat_of_zero_le h1
  have := rd_bd h i
  rw [← hi] at this
  exact set_ok h ⟨by omega, by omega⟩
theorem instOf_bd {ins rest : Int} {left : List Int} (h : ∀ y ∈ left, 0 ≤ y ∧ y ≤ 50) (hr : 0 ≤ rest) : 0 ≤ instOf ins rest left ∧ instOf ins rest left ≤ rest ∧ (0 ≤ ins → instOf ins rest left ≤ rd left ins) := by
  unfold instOf
  by_cases c : ins < 0
  · rw [if_pos c]; omega
  · rw [if_neg c]
    obtain ⟨i, hi⟩ := Int.eq_ofNat_of_zero_le (show 0 ≤ ins by omega)
    have := rd_bd h i
    rw [← hi] at this
    have := mn_bd hr this.1
    omega
theorem leftOf_ok {ins rest : Int} {left : List Int} (h : ∀ y ∈ left, 0 ≤ y ∧ y ≤ 50) (hr : 0 ≤ rest) : ∀ y ∈ leftOf ins rest left, 0 ≤ y ∧ y ≤ 50 := by
  have hb := instOf_bd (ins := ins) h hr
  unfold leftOf
  by_cases c : ins < 0
  · rw [if_pos c]; exact h
  · rw [if_neg c]
    obtain ⟨i, hi⟩ := Int.eq_ofNat_of_zero_le (show 0 ≤ ins by omega)
    have := rd_bd h i
    rw [← hi] at this
    exact set_ok h ⟨by omega, by omega⟩
theorem leftOf_len (ins rest : Int) (left : List Int) : (leftOf ins rest left).length = left.length := by
  unfold leftOf
  split <;> simp
theorem listedF_le (l1 : List S47) (good : Int) (sh : List S49) (F : Int → Int → Int) : ∀ n, listedF l1 good sh F n ≤ n
  | 0 => Nat.le_refl _
  | n + 1 => by
    have := listedF_le l1 good sh F n
    unfold listedF
    split <;> omega
def restAt (l1 : List S47) (F : Int → Int → Int) (x : S47) (left : List Int) (sh : List S49) : Nat → Int
  | 0 => x.f2
  | 1 => x.f2 - sentF x left
  | 2 => wantF x left
  | _ => wantF x left - listedF l1 x.f1 sh F (wantF x left).toNat
def leftAt (x : S47) (left : List Int) : Nat → List Int
  | 0 => left
  | 1 => left1F x left
  | _ => left2F x left
def nAt (l1 : List S47) (F : Int → Int → Int) (x : S47) (left : List Int) (sh : List S49) (j i : Nat) : Int :=
  if i < j then (match i with | 0 => sentF x left | 1 => instF x left | _ => listedF l1 x.f1 sh F (wantF x left).toNat) else 0
/-- The lines from the k-th on, d of them, served. -/
def serveF (l1 : List S47) (F : Int → Int → Int) : Nat → Nat → List Int × List S49 → List Int × List S49
  | 0, _, s => s
  | d + 1, k, s => serveF l1 F d (k + 1) (left2F (rd_T47 l1 k) s.1, s.2 ++ [shareF l1 F (rd_T47 l1 k) s.1 s.2])
/-- The table of what can become of a piece. -/
def Fates (w : World) : Prop := w.heap[0]? = some (.cells #[.func (.func 120) #[] #[], .func (.func 121) #[] #[], .func (.func 122) #[] #[]] 115 (0, 0))
theorem grownBy_setNew {w W : World} {row : Option Nat} (h : w.grownBy W row) {b : Nat} (hb : w.heap.size ≤ b) (j : Nat) (v : Value) : w.grownBy (W.setCell ⟨b, j, none⟩ v) row :=
  ⟨h.os, h.tape, h.output, by simpa using h.size, fun i hi hne => (Below.heap_setCell W ⟨b, j, none⟩ v i (fun e => by simp at e; omega)).trans (h.block i hi hne)⟩
theorem grownBy_but {w W : World} (h : w.grownBy W none) (row : Option Nat) : w.grownBy W row := ⟨h.os, h.tape, h.output, h.size, fun i hi _ => h.block i hi (by simp)⟩
theorem SpotMap.ne {w : World} {b n g : Nat} {F : Int → Int → Int} {cs : Array Value} {t : TypeId} {fr : Nat × Nat} (h : SpotMap w b n F) (hb : w.heap[g]? = some (.cells cs t fr)) : b ≠ g := by
  rintro rfl
  obtain ⟨D, ⟨es, clock, hb', _⟩, _⟩ := h
  rw [hb] at hb'
  cases hb'
theorem R49_kept {w w1 : World} {base g : Nat} {v : Value} {xs : List S49} {cs : Array Value} (h : Kd.R k49 49 w base (fun _ => True) v xs) (hb : w.heap[g]? = some (.cells cs 86 (0, 0))) (hg : w.grownBy w1 (some g)) : Kd.R k49 49 w1 base (fun _ => True) v xs :=
  Kd.R_mono (Kd.R_grown (Kd.R_types h hb (by decide)) hg (fun k hk => by have := hk.2; simpa using this)) (fun _ _ => trivial)
theorem instead_calls (g mb : Nat) (S L D sv : Value) (left : List Int) (ord good many til ins rest : Int) (w : World)
    (hb : w.heap[g]? = some (.cells (bookCells S L D left mb sv) 86 (0, 0))) (hl : left.length = 5) (hg : ins ≤ 4)
    (hle : ∀ x ∈ left, 0 ≤ x ∧ x ≤ 50) (hr : 0 ≤ rest ∧ rest ≤ 20) :
    Calls Tryd.prog 121 #[.pointer (some ⟨g, 0, none⟩), .agg #[.int .i64 ord, .int .i64 good, .int .i64 many, .int .i64 til, .int .i64 ins], .int .i64 rest] w fun e w' =>
      e = .returned (.int .i64 (instOf ins rest left)) ∧ w.grownBy w' (some g) ∧ w'.heap[g]? = some (.cells (bookCells S L D (leftOf ins rest left) mb sv) 86 (0, 0)) := by
  unfold leftOf instOf
  by_cases h : ins < 0
  · refine (instead_neg g mb S L D sv left ord good many til ins rest w h).mono ?_
    rintro e w' ⟨rfl, hb1⟩
    rw [if_pos h, if_pos h]
    exact ⟨rfl, grown_of_below hb1 _, blk_below hb hb1⟩
  · rw [if_neg h, if_neg h]
    exact instead_pos g mb S L D sv left ord good many til ins rest w hb hl ⟨by omega, hg⟩ hle hr
theorem listed_calls' (g mb n : Nat) (S D : Value) (A1 : Option Addr) (c1 : Nat) (l1 : List S47) (left : List Int) (F : Int → Int → Int) (As : Option Addr) (cs : Nat) (sh : List S49) (ord good many til ins rest : Int) (w : World)
    (hb : w.heap[g]? = some (.cells (bookCells S (.slice A1 l1.length c1) D left mb (.slice As sh.length cs)) 86 (0, 0)))
    (hm : SpotMap w mb n F) (h1 : Kd.C k47 w A1 l1.length l1) (hc1 : l1.length ≤ c1) (h2 : Kd.C k49 w As sh.length sh) (hc2 : sh.length ≤ cs)
    (hlen : sh.length + 1 ≤ l1.length) (hl : sh.length + 1 ≤ 10) (hs : ∀ s ∈ sh, 0 ≤ s.f2 ∧ s.f2 ≤ 20) (hg : 0 ≤ good ∧ good ≤ 4) (hr : 0 ≤ rest ∧ rest ≤ 20) :
    Calls Tryd.prog 122 #[.pointer (some ⟨g, 0, none⟩), .agg #[.int .i64 ord, .int .i64 good, .int .i64 many, .int .i64 til, .int .i64 ins], .int .i64 rest] w fun e w' =>
      e = .returned (.int .i64 (listedF l1 good sh F rest.toNat)) ∧ w.grownBy w' (some g) ∧ w'.heap[g]? = some (.cells (bookCells S (.slice A1 l1.length c1) D left mb (.slice As sh.length cs)) 86 (0, 0)) := by
  obtain ⟨r, rfl⟩ := Int.eq_ofNat_of_zero_le hr.1
  refine (listed_calls g mb n S D A1 c1 l1 left F As cs sh ord good many til ins r w hb hm h1 hc1 h2 hc2 hlen hl hs hg (by omega)).mono ?_
  rintro e w' ⟨rfl, hb1⟩
  exact ⟨by rw [Int.toNat_natCast], grown_of_below hb1 _, blk_below hb hb1⟩
def cap77 (X B S : Nat) : Array Value := #[.pointer (some ⟨X, 0, none⟩), .pointer (some ⟨B, 0, none⟩), .pointer (some ⟨S, 0, none⟩)]
set_option maxHeartbeats 8000000 in
set_option maxRecDepth 100000 in
theorem serve_calls (w0 : World) (X B Sv g mb n : Nat) (Sl D : Value) (A1 : Option Addr) (c1 : Nat) (l1 : List S47) (F : Int → Int → Int) (h1 : Kd.C k47 w0 A1 l1.length l1) (hc1 : l1.length ≤ c1) (hl1 : l1.length ≤ 10) (hok : ∀ x ∈ l1, OkLine x) :
    ∀ (d k : Nat) (left : List Int) (sv : Value) (sh : List S49) (w : World), k + d = l1.length → Fates w →
    w.heap[X]? = some (.cells #[Sl, .slice A1 l1.length c1, D] 26 (0, 0)) → w.heap[B]? = some (.cells #[.pointer (some ⟨g, 0, none⟩)] 79 (0, 0)) →
    w.heap[Sv]? = some (.cells #[.func (.func 77) #[] (cap77 X B Sv)] 113 (0, 0)) →
    w.heap[g]? = some (.cells (bookCells Sl (.slice A1 l1.length c1) D left mb sv) 86 (0, 0)) → SpotMap w mb n F → w0.heap.size ≤ g →
    Kd.R k49 49 w w0.heap.size (fun _ => True) sv sh → sh.length = k → left.length = 5 → (∀ x ∈ left, 0 ≤ x ∧ x ≤ 50) → (∀ s ∈ sh, 0 ≤ s.f2 ∧ s.f2 ≤ 20) → Below w0.heap.size w0 w →
    Calls Tryd.prog 77 #[.int .i64 k, .pointer (some ⟨X, 0, none⟩), .pointer (some ⟨B, 0, none⟩), .pointer (some ⟨Sv, 0, none⟩)] w fun e w' => e = .returned (.tuple #[]) ∧ ∃ sv', 
      w'.heap[g]? = some (.cells (bookCells Sl (.slice A1 l1.length c1) D (serveF l1 F d k (left, sh)).1 mb sv') 86 (0, 0)) ∧ Kd.R k49 49 w' w0.heap.size (fun _ => True) sv' (serveF l1 F d k (left, sh)).2 ∧ w.grownBy w' (some g) ∧ Below w0.heap.size w0 w' := by
  intro d
  induction d with
  | zero =>
    intro k left sv sh w hk hfa hX hB hS hg hm hge hR hsh hl hle hs hbw
    have hk' : k = l1.length := by omega
    subst hk'
    have hcX := (blk_cell hX 1).trans (show _ = some (.slice A1 l1.length c1) from rfl)
    have HG := Aside0.mk hg
    clear hfa hX hB hS hg hm hsh hle hs
    have HR := Aside0.mk hR
    clear hR
    go_enter Tryd.func77, Tryd.ntmps77
    go_wp2
    first | go_end0 | refine bodyPost_ret (results_none rfl _ _ _) rfl ?_
    exact ⟨rfl, sv, HG.out, HR.out, World.grownBy.refl _ _, hbw⟩
  | succ d ih =>
    intro k left sv sh w hk hfa hX hB hS hg hm hge hR hsh hl hle hs hbw
    have hklt : k < l1.length := by omega
    have hx := rdmem47 hok hklt
    obtain ⟨k1, k2, k3, k4, k5, k6, k7, k8⟩ := hx
    obtain ⟨ad1, e1, p0, p1, p2, p3, p4⟩ := at_T47 (Kd.C_below h1 hbw) k (by omega) (by omega)
    cases e1
    simp only [Int.toNat_natCast] at p0 p1 p2 p3 p4
    have hcX := (blk_cell hX 1).trans (show _ = some (Value.slice (some ad1) l1.length c1) from rfl)
    have hcB := (blk_cell hB 0).trans (show _ = some (Value.pointer (some ⟨g, 0, none⟩)) from rfl)
    have hF0 := all_alloc ((blk_cell hfa 0).trans (show _ = some (Value.func (.func 120) #[] #[]) from rfl))
    have hF1 := all_alloc ((blk_cell hfa 1).trans (show _ = some (Value.func (.func 121) #[] #[]) from rfl))
    have hF2 := all_alloc ((blk_cell hfa 2).trans (show _ = some (Value.func (.func 122) #[] #[]) from rfl))
    have i0 : (0 : Int) ≤ (k : Int) := by omega
    have i1 : (k : Int) < (l1.length : Int) := by omega
    have hne : ((k : Int) == (l1.length : Int)) = false := beq_eq_false_iff_ne.2 (by omega)
    have HFA := Aside0.mk hfa
    have HX := Aside0.mk hX
    have HBB := Aside0.mk hB
    have HS := Aside0.mk hS
    have HG := Aside0.mk hg
    have HM := Aside0.mk hm
    obtain ⟨As, cs, rfl⟩ := Kd.R_slice hR
    have HR := Aside0.mk hR
    have HLE := Aside0.mk hle
    have HSS := Aside0.mk hs
    have HOK := Aside0.mk hok
    have HC := Aside0.mk h1
    have HIH := Aside0.mk ih
    clear hfa hX hB hS hg hm hR hle hs hok h1 ih
    go_enter Tryd.func77, Tryd.ntmps77
    go_wp2
    clear hF0 hF1 hF2 p0 p1 p2 p3 p4 hcX hcB
    have HNB := Aside0.mk (heap_alloc_new w (.cells #[.int .i64 0, .int .i64 0, .int .i64 0] 65))
    go_loopw [5, 21] (fun v i wr => ∃ j : Nat, j ≤ 3 ∧ i = .int .i64 j ∧ v = .int .i64 (restAt l1 F (rd_T47 l1 k) left sh j) ∧
      Aside0 (wr.heap[w.heap.size]? = some (.cells #[.int .i64 (nAt l1 F (rd_T47 l1 k) left sh j 0), .int .i64 (nAt l1 F (rd_T47 l1 k) left sh j 1), .int .i64 (nAt l1 F (rd_T47 l1 k) left sh j 2)] 65 (0, 0))) ∧
      Aside0 (wr.heap[g]? = some (.cells (bookCells Sl (.slice (some ad1) l1.length c1) D (leftAt (rd_T47 l1 k) left j) mb (.slice As sh.length cs)) 86 (0, 0))) ∧ Aside0 (w.grownBy wr (some g))) (fun _ i _ => 3 - (intOf i).toNat)
    case atStart => exact ⟨0, by omega, rfl, rfl, HNB, ⟨blk_alloc HG.out _⟩, ⟨World.grownBy_alloc w _ _⟩⟩
    case round =>
      obtain ⟨j, hj, rfl, rfl, HN, HGj, HW⟩ := hrel
      obtain ⟨ad', e1, p0, p1, p2, p3, p4⟩ := at_T47 (Kd.C_below HC.out hbw) k (by omega) (by omega)
      cases e1
      obtain ⟨ad', e1, q0, _, _, _, _⟩ := at_T47 HC.out k (by omega) (by omega)
      cases e1
      simp only [Int.toNat_natCast] at p0 p1 p2 p3 p4 q0
      have hadb : (ad1.add (k * 5)).block < w0.heap.size := World.block_lt_of_cell? w0 _ q0
      have gb : g < w.heap.size := blk_lt HG.out
      have nXg : X ≠ g := blk_ne HX.out HG.out (by decide)
      have nBg : B ≠ g := blk_ne HBB.out HG.out (by decide)
      have hcX := World.grownBy.cell HW.out ((blk_cell HX.out 1).trans (show _ = some (Value.slice (some ad1) l1.length c1) from rfl)) (by simpa using nXg)
      have hcB := World.grownBy.cell HW.out ((blk_cell HBB.out 0).trans (show _ = some (Value.pointer (some ⟨g, 0, none⟩)) from rfl)) (by simpa using nBg)
      replace p0 := World.grownBy.cell HW.out p0 (by simp; omega)
      replace p1 := World.grownBy.cell HW.out p1 (by simp; omega)
      replace p2 := World.grownBy.cell HW.out p2 (by simp; omega)
      replace p3 := World.grownBy.cell HW.out p3 (by simp; omega)
      replace p4 := World.grownBy.cell HW.out p4 (by simp; omega)
      have m1 : w.heap.size ≠ B := by have := blk_lt HBB.out; omega
      have m2 : w.heap.size ≠ X := by have := blk_lt HX.out; omega
      have m3 : w.heap.size ≠ (ad1.add (k * 5)).block := by omega
      clear q0
      have hsb := sentF_bd (x := rd_T47 l1 k) HLE.out (by omega) k1
      have HL1 := Aside0.mk (left1F_ok (x := rd_T47 l1 k) HLE.out (by omega) k1)
      have hib := instOf_bd (ins := (rd_T47 l1 k).f4) (rest := (rd_T47 l1 k).f2 - sentF (rd_T47 l1 k) left) HL1.out (by omega)
      have hwb : 0 ≤ wantF (rd_T47 l1 k) left ∧ wantF (rd_T47 l1 k) left ≤ 20 := by
        show 0 ≤ (rd_T47 l1 k).f2 - sentF (rd_T47 l1 k) left - instOf _ _ _ ∧ (rd_T47 l1 k).f2 - sentF (rd_T47 l1 k) left - instOf _ _ _ ≤ 20
        omega
      have HWB := Aside0.mk hwb
      have hlb := listedF_le l1 (rd_T47 l1 k).f1 sh F (wantF (rd_T47 l1 k) left).toNat
      have HMj := Aside0.mk (SpotMap.kept HM.out HW.out (by simpa using SpotMap.ne HM.out HG.out))
      have hbwr := pw_below_grown hbw (some g) hbw.size HW.out (fun q hq => by cases hq; exact hge)
      have HCj := Aside0.mk (Kd.C_below HC.out hbwr)
      have HRj := Aside0.mk (R49_kept HR.out HG.out HW.out)
      have HSj := Aside0.mk (Kd.R_reads' HRj.out).2.2
      have hles := (Kd.R_reads' HRj.out).2.1
      match j, hj with
      | 0, _ =>
        have hix : ∀ W, (Instr.index 115 (.agg #[.func (.func 120) #[] #[], .func (.func 121) #[] #[], .func (.func 122) #[] #[]]) (.int .i64 0)).run Tryd.prog W = .ok (.func (.func 120) #[] #[]) W := fun _ => by kernel_rfl
        have hr0 : restAt l1 F (rd_T47 l1 k) left sh 0 = (rd_T47 l1 k).f2 := rfl
        have hs0 : mn (rd_T47 l1 k).f2 (rd left (rd_T47 l1 k).f1) = sentF (rd_T47 l1 k) left := rfl
        go_wp2
        go_region_held3 (fun W => W.cell? ⟨B, 0, none⟩ = some (.pointer (some ⟨g, 0, none⟩)) ∧ W.cell? ⟨X, 1, none⟩ = some (.slice (some ad1) l1.length c1) ∧ W.cell? (ad1.add (k * 5)) = some (.int .i64 (rd_T47 l1 k).f0) ∧ W.cell? ⟨(ad1.add (k * 5)).block, (ad1.add (k * 5)).off + 1, none⟩ = some (.int .i64 (rd_T47 l1 k).f1) ∧ W.cell? ⟨(ad1.add (k * 5)).block, (ad1.add (k * 5)).off + 2, none⟩ = some (.int .i64 (rd_T47 l1 k).f2) ∧ W.cell? ⟨(ad1.add (k * 5)).block, (ad1.add (k * 5)).off + 3, none⟩ = some (.int .i64 (rd_T47 l1 k).f3) ∧ W.cell? ⟨(ad1.add (k * 5)).block, (ad1.add (k * 5)).off + 4, none⟩ = some (.int .i64 (rd_T47 l1 k).f4)) (go_keep)
          ((go_at_call 120; (with_reducible refine (sent_calls g mb Sl _ D (.slice As sh.length cs) left _ _ _ _ _ _ _ (blk_drew HGj.out) hl ⟨k1, k2⟩ HLE.out ⟨by omega, by omega⟩).mono ?_); rintro e w2 ⟨rfl, hg2, hb2⟩; have r0 := World.grownBy.cell hg2 hcB (by simpa using nBg); have r1 := World.grownBy.cell hg2 hcX (by simpa using nXg); have t0 := World.grownBy.cell hg2 p0 (by simp; omega); have t1 := World.grownBy.cell hg2 p1 (by simp; omega); have t2 := World.grownBy.cell hg2 p2 (by simp; omega); have t3 := World.grownBy.cell hg2 p3 (by simp; omega); have t4 := World.grownBy.cell hg2 p4 (by simp; omega); have hn2 := blk_grown (blk_drew HN.out) hg2 (by simp; omega); have hnc := (blk_cell hn2 0).trans (show _ = some (Value.int .i64 (nAt l1 F (rd_T47 l1 k) left sh 0 0)) from rfl); have hnf := blk_frozen hn2 0; have HN2 := Aside0.mk hn2; have HG2 := Aside0.mk hb2; have HW2 := Aside0.mk hg2; clear hn2 hb2 hg2))
        go_wp2
        go_roundw
        case rel => exact ⟨1, by omega, rfl, rfl, ⟨(blk_set HN2.out 0 _).trans rfl⟩, ⟨blk_far HG2.out (by simp; omega) _⟩, ⟨grownBy_setNew ((grownBy_drew HW.out).trans HW2.out) (Nat.le_refl _) _ _⟩⟩
        case measure => simp [intOf]
      | 1, _ =>
        have hix : ∀ W, (Instr.index 115 (.agg #[.func (.func 120) #[] #[], .func (.func 121) #[] #[], .func (.func 122) #[] #[]]) (.int .i64 1)).run Tryd.prog W = .ok (.func (.func 121) #[] #[]) W := fun _ => by kernel_rfl
        have hr0 : restAt l1 F (rd_T47 l1 k) left sh 1 = (rd_T47 l1 k).f2 - sentF (rd_T47 l1 k) left := rfl
        have hs0 : instOf (rd_T47 l1 k).f4 ((rd_T47 l1 k).f2 - sentF (rd_T47 l1 k) left) (left1F (rd_T47 l1 k) left) = instF (rd_T47 l1 k) left := rfl
        go_wp2
        go_region_held3 (fun W => W.cell? ⟨B, 0, none⟩ = some (.pointer (some ⟨g, 0, none⟩)) ∧ W.cell? ⟨X, 1, none⟩ = some (.slice (some ad1) l1.length c1) ∧ W.cell? (ad1.add (k * 5)) = some (.int .i64 (rd_T47 l1 k).f0) ∧ W.cell? ⟨(ad1.add (k * 5)).block, (ad1.add (k * 5)).off + 1, none⟩ = some (.int .i64 (rd_T47 l1 k).f1) ∧ W.cell? ⟨(ad1.add (k * 5)).block, (ad1.add (k * 5)).off + 2, none⟩ = some (.int .i64 (rd_T47 l1 k).f2) ∧ W.cell? ⟨(ad1.add (k * 5)).block, (ad1.add (k * 5)).off + 3, none⟩ = some (.int .i64 (rd_T47 l1 k).f3) ∧ W.cell? ⟨(ad1.add (k * 5)).block, (ad1.add (k * 5)).off + 4, none⟩ = some (.int .i64 (rd_T47 l1 k).f4)) (go_keep)
          ((go_at_call 121; (with_reducible refine (instead_calls g mb Sl _ D (.slice As sh.length cs) (left1F (rd_T47 l1 k) left) _ _ _ _ _ _ _ (show _ = some (Obj.cells (bookCells Sl _ D (left1F (rd_T47 l1 k) left) mb _) 86 (0, 0)) from HGj.out) (by rw [left1F, List.length_set]; exact hl) k8 HL1.out ⟨by omega, by omega⟩).mono ?_); rintro e w2 ⟨rfl, hg2, hb2⟩; have r0 := World.grownBy.cell hg2 hcB (by simpa using nBg); have r1 := World.grownBy.cell hg2 hcX (by simpa using nXg); have t0 := World.grownBy.cell hg2 p0 (by simp; omega); have t1 := World.grownBy.cell hg2 p1 (by simp; omega); have t2 := World.grownBy.cell hg2 p2 (by simp; omega); have t3 := World.grownBy.cell hg2 p3 (by simp; omega); have t4 := World.grownBy.cell hg2 p4 (by simp; omega); have hn2 := blk_grown (blk_drew HN.out) hg2 (by simp; omega); have hnc := (blk_cell hn2 1).trans (show _ = some (Value.int .i64 (nAt l1 F (rd_T47 l1 k) left sh 1 1)) from rfl); have hnf := blk_frozen hn2 1; have HN2 := Aside0.mk hn2; have HG2 := Aside0.mk hb2; have HW2 := Aside0.mk hg2; clear hn2 hb2 hg2))
        go_wp2
        go_roundw
        case rel => exact ⟨2, by omega, rfl, rfl, ⟨(blk_set HN2.out 1 _).trans rfl⟩, ⟨blk_far HG2.out (by simp; omega) _⟩, ⟨grownBy_setNew ((grownBy_drew HW.out).trans HW2.out) (Nat.le_refl _) _ _⟩⟩
        case measure => simp [intOf]
      | 2, _ =>
        have hix : ∀ W, (Instr.index 115 (.agg #[.func (.func 120) #[] #[], .func (.func 121) #[] #[], .func (.func 122) #[] #[]]) (.int .i64 2)).run Tryd.prog W = .ok (.func (.func 122) #[] #[]) W := fun _ => by kernel_rfl
        have hr0 : restAt l1 F (rd_T47 l1 k) left sh 2 = wantF (rd_T47 l1 k) left := rfl
        have hw := hwb
        go_wp2
        go_region_held3 (fun W => W.cell? ⟨B, 0, none⟩ = some (.pointer (some ⟨g, 0, none⟩)) ∧ W.cell? ⟨X, 1, none⟩ = some (.slice (some ad1) l1.length c1) ∧ W.cell? (ad1.add (k * 5)) = some (.int .i64 (rd_T47 l1 k).f0) ∧ W.cell? ⟨(ad1.add (k * 5)).block, (ad1.add (k * 5)).off + 1, none⟩ = some (.int .i64 (rd_T47 l1 k).f1) ∧ W.cell? ⟨(ad1.add (k * 5)).block, (ad1.add (k * 5)).off + 2, none⟩ = some (.int .i64 (rd_T47 l1 k).f2) ∧ W.cell? ⟨(ad1.add (k * 5)).block, (ad1.add (k * 5)).off + 3, none⟩ = some (.int .i64 (rd_T47 l1 k).f3) ∧ W.cell? ⟨(ad1.add (k * 5)).block, (ad1.add (k * 5)).off + 4, none⟩ = some (.int .i64 (rd_T47 l1 k).f4)) (go_keep)
          ((go_at_call 122; (with_reducible refine (listed_calls' g mb n Sl D _ c1 l1 (left2F (rd_T47 l1 k) left) F As cs sh _ _ _ _ _ _ _ (show _ = some (Obj.cells (bookCells Sl _ D (left2F (rd_T47 l1 k) left) mb _) 86 (0, 0)) from HGj.out) (SpotMap.drew HMj.out) (Kd.C_below HCj.out (below_drew (Below.refl _ _))) hc1 (Kd.C_below HSj.out (below_drew (Below.refl _ _))) hles (by omega) (by omega) HSS.out ⟨k1, k2⟩ ⟨by omega, by omega⟩).mono ?_); rintro e w2 ⟨rfl, hg2, hb2⟩; have r0 := World.grownBy.cell hg2 hcB (by simpa using nBg); have r1 := World.grownBy.cell hg2 hcX (by simpa using nXg); have t0 := World.grownBy.cell hg2 p0 (by simp; omega); have t1 := World.grownBy.cell hg2 p1 (by simp; omega); have t2 := World.grownBy.cell hg2 p2 (by simp; omega); have t3 := World.grownBy.cell hg2 p3 (by simp; omega); have t4 := World.grownBy.cell hg2 p4 (by simp; omega); have hn2 := blk_grown (blk_drew HN.out) hg2 (by simp; omega); have hnc := (blk_cell hn2 2).trans (show _ = some (Value.int .i64 (nAt l1 F (rd_T47 l1 k) left sh 2 2)) from rfl); have hnf := blk_frozen hn2 2; have HN2 := Aside0.mk hn2; have HG2 := Aside0.mk hb2; have HW2 := Aside0.mk hg2; clear hn2 hb2 hg2))
        go_wp2
        go_roundw
        case rel => exact ⟨3, by omega, rfl, rfl, ⟨(blk_set HN2.out 2 _).trans rfl⟩, ⟨blk_far HG2.out (by simp; omega) _⟩, ⟨grownBy_setNew ((grownBy_drew HW.out).trans HW2.out) (Nat.le_refl _) _ _⟩⟩
        case measure => simp [intOf]
      | 3, _ =>
        have hr0 : restAt l1 F (rd_T47 l1 k) left sh 3 = wantF (rd_T47 l1 k) left - listedF l1 (rd_T47 l1 k).f1 sh F (wantF (rd_T47 l1 k) left).toNat := rfl
        have hn0 : wr.cell? ⟨w.heap.size, 0, none⟩ = some (.int .i64 (sentF (rd_T47 l1 k) left)) := (blk_cell HN.out 0).trans rfl
        have hn1 : wr.cell? ⟨w.heap.size, 1, none⟩ = some (.int .i64 (instF (rd_T47 l1 k) left)) := (blk_cell HN.out 1).trans rfl
        have hn2 : wr.cell? ⟨w.heap.size, 2, none⟩ = some (.int .i64 (listedF l1 (rd_T47 l1 k).f1 sh F (wantF (rd_T47 l1 k) left).toNat)) := (blk_cell HN.out 2).trans rfl
        have hg9 : wr.cell? ⟨g, 9, none⟩ = some (.slice As sh.length cs) := (blk_cell HGj.out 9).trans rfl
        have i9 : (k : Int) ≤ (cs : Int) := by omega
        have HSk : Aside0 (Kd.C k49 wr As k sh) := ⟨by rw [← hsh]; exact HSj.out⟩
        go_wp2
        refine wp_region_lastP (S := fun W => W.cell? ⟨B, 0, none⟩ = some (.pointer (some ⟨g, 0, none⟩)) ∧ W.cell? ⟨g, 9, none⟩ = some (.slice As sh.length cs) ∧ W.cell? ⟨w.heap.size, 0, none⟩ = some (.int .i64 (sentF (rd_T47 l1 k) left)) ∧ W.cell? ⟨w.heap.size, 1, none⟩ = some (.int .i64 (instF (rd_T47 l1 k) left)) ∧ W.cell? ⟨w.heap.size, 2, none⟩ = some (.int .i64 (listedF l1 (rd_T47 l1 k).f1 sh F (wantF (rd_T47 l1 k) left).toNat))) (by kernel_rfl) (by simp) (by kernel_rfl) (by go_keep) (fun hHeld => ?_)
        simp only [List.pop_toArray, List.dropLast_cons_cons, List.dropLast_singleton]
        refine' wpAnyH_take (i := 0) (v := _) rfl (by kernel_rfl) (by kernel_rfl) (by kernel_rfl) (fun _ _ _ h => h) (Or.inl ⟨by rfl, ?hy0⟩) (by assumption) ?rest0
        case hy0 => (intro W hSw; (try dsimp only at hSw); go_simp; try (with_reducible rfl))
        try simp only [Act.put, List.setIfInBounds_toArray, List.set_cons_zero, List.set_cons_succ]
        refine' wpAnyH_take (i := 1) (v := _) rfl (by kernel_rfl) (by kernel_rfl) (by kernel_rfl) (fun _ _ _ h => h) (Or.inl ⟨by rfl, ?hy1⟩) (by assumption) ?rest1
        case hy1 => (intro W hSw; (try dsimp only at hSw); go_simp; try (with_reducible rfl))
        try simp only [Act.put, List.setIfInBounds_toArray, List.set_cons_zero, List.set_cons_succ]
        refine' wpAnyH_take (i := 2) (v := _) rfl (by kernel_rfl) (by kernel_rfl) (by kernel_rfl) (fun _ _ _ h => h) (Or.inl ⟨by rfl, ?hy2⟩) (by assumption) ?rest2
        case hy2 => (intro W hSw; (try dsimp only at hSw); go_simp; try (with_reducible rfl))
        try simp only [Act.put, List.setIfInBounds_toArray, List.set_cons_zero, List.set_cons_succ]
        refine' wpAnyH_take (i := 3) (v := _) rfl (by kernel_rfl) (by kernel_rfl) (by kernel_rfl) (fun _ _ _ h => h) (Or.inl ⟨by rfl, ?hy3⟩) (by assumption) ?rest3
        case hy3 => (intro W hSw; (try dsimp only at hSw); go_simp; try (with_reducible rfl))
        try simp only [Act.put, List.setIfInBounds_toArray, List.set_cons_zero, List.set_cons_succ]
        refine' wpAnyH_take (i := 4) (v := _) rfl (by kernel_rfl) (by kernel_rfl) (by kernel_rfl) (fun _ _ _ h => h) (Or.inl ⟨by rfl, ?hy4⟩) (by assumption) ?rest4
        case hy4 => (intro W hSw; (try dsimp only at hSw); go_simp; try (with_reducible rfl))
        try simp only [Act.put, List.setIfInBounds_toArray, List.set_cons_zero, List.set_cons_succ]
        refine' wpAnyH_take (i := 5) (v := _) rfl (by kernel_rfl) (by kernel_rfl) (by kernel_rfl) (fun _ _ _ h => h) (Or.inl ⟨by rfl, ?hy5⟩) (by assumption) ?rest5
        case hy5 => (intro W hSw; (try dsimp only at hSw); go_simp; try (with_reducible rfl))
        try simp only [Act.put, List.setIfInBounds_toArray, List.set_cons_zero, List.set_cons_succ]
        refine' wpAnyH_take (i := 6) (v := _) rfl (by kernel_rfl) (by kernel_rfl) (by kernel_rfl) (fun _ _ _ h => h) (Or.inl ⟨by rfl, ?hy6⟩) (by assumption) ?rest6
        case hy6 => (intro W hSw; (try dsimp only at hSw); go_simp; try (with_reducible rfl))
        try simp only [Act.put, List.setIfInBounds_toArray, List.set_cons_zero, List.set_cons_succ]
        refine' wpAnyH_take (i := 7) (v := _) rfl (by kernel_rfl) (by kernel_rfl) (by kernel_rfl) (fun _ _ _ h => h) (Or.inl ⟨by rfl, ?hy7⟩) (by assumption) ?rest7
        case hy7 => (intro W hSw; (try dsimp only at hSw); go_simp; try (with_reducible rfl))
        try simp only [Act.put, List.setIfInBounds_toArray, List.set_cons_zero, List.set_cons_succ]
        refine' wpAnyH_take (i := 8) (v := _) rfl (by kernel_rfl) (by kernel_rfl) (by kernel_rfl) (fun _ _ _ h => h) (Or.inl ⟨by rfl, ?hy8⟩) (by assumption) ?rest8
        case hy8 => (intro W hSw; (try dsimp only at hSw); go_simp; try (with_reducible rfl))
        try simp only [Act.put, List.setIfInBounds_toArray, List.set_cons_zero, List.set_cons_succ]
        refine' wpAnyH_take (i := 9) (v := _) rfl (by kernel_rfl) (by kernel_rfl) (by kernel_rfl) (fun _ _ _ h => h) (Or.inl ⟨by rfl, ?hy9⟩) (by assumption) ?rest9
        case hy9 => (intro W hSw; (try dsimp only at hSw); go_simp; try (with_reducible rfl))
        try simp only [Act.put, List.setIfInBounds_toArray, List.set_cons_zero, List.set_cons_succ]
        refine' wpAnyH_take (i := 10) (v := _) rfl (by kernel_rfl) (by kernel_rfl) (by kernel_rfl) (fun _ _ _ h => h) (Or.inl ⟨by rfl, ?hy10⟩) (by assumption) ?rest10
        case hy10 => (intro W hSw; (try dsimp only at hSw); go_simp; try (with_reducible rfl))
        try simp only [Act.put, List.setIfInBounds_toArray, List.set_cons_zero, List.set_cons_succ]
        refine' wpAnyH_take (i := 11) (v := _) rfl (by kernel_rfl) (by kernel_rfl) (by kernel_rfl) (fun _ _ _ h => h) (Or.inl ⟨by rfl, ?hy11⟩) (by assumption) ?rest11
        case hy11 => (intro W hSw; (try dsimp only at hSw); go_simp; try (with_reducible rfl))
        try simp only [Act.put, List.setIfInBounds_toArray, List.set_cons_zero, List.set_cons_succ]
        refine' wpAnyH_take (i := 12) (v := _) rfl (by kernel_rfl) (by kernel_rfl) (by kernel_rfl) (fun _ _ _ h => h) (Or.inl ⟨by rfl, ?hy12⟩) (by assumption) ?rest12
        case hy12 => (intro W hSw; (try dsimp only at hSw); go_simp; try (with_reducible rfl))
        try simp only [Act.put, List.setIfInBounds_toArray, List.set_cons_zero, List.set_cons_succ]
        refine' wpAnyH_take (i := 13) (v := _) rfl (by kernel_rfl) (by kernel_rfl) (by kernel_rfl) (fun _ _ _ h => h) (Or.inl ⟨by rfl, ?hy13⟩) (by assumption) ?rest13
        case hy13 => (intro W hSw; (try dsimp only at hSw); go_simp; try (with_reducible rfl))
        try simp only [Act.put, List.setIfInBounds_toArray, List.set_cons_zero, List.set_cons_succ]
        refine' wpAnyH_take (i := 14) (v := _) rfl (by kernel_rfl) (by kernel_rfl) (by kernel_rfl) (fun _ _ _ h => h) (Or.inl ⟨by rfl, ?hy14⟩) (by assumption) ?rest14
        case hy14 => (intro W hSw; (try dsimp only at hSw); go_simp; try (with_reducible rfl))
        try simp only [Act.put, List.setIfInBounds_toArray, List.set_cons_zero, List.set_cons_succ]
        refine' wpAnyH_take (i := 15) (v := _) rfl (by kernel_rfl) (by kernel_rfl) (by kernel_rfl) (fun _ _ _ h => h) (Or.inl ⟨by rfl, ?hy15⟩) (by assumption) ?rest15
        case hy15 => (intro W hSw; (try dsimp only at hSw); go_simp; try (with_reducible rfl))
        try simp only [Act.put, List.setIfInBounds_toArray, List.set_cons_zero, List.set_cons_succ]
        refine wpAnyH_ready (rs := [16]) (by kernel_rfl) (by simp) ?_
        refine AllReadyH.cons rfl (fun K hK => ?_) AllReadyH.nil
        go_simp
        refine hK.out _ _ (by go_keep) (fun hHeld1 => ?_)
        clear hK K
        try simp only [Act.put, List.setIfInBounds_toArray, List.set_cons_zero, List.set_cons_succ]
        refine wpAnyH_ready (rs := [17]) (by kernel_rfl) (by simp) ?_
        refine AllReadyH.cons rfl (fun K hK => ?_) AllReadyH.nil
        refine step_append_full flat49 (by rfl) (.tmp 49) (.tmp 58) 42 (by rfl) 49 (.agg #[.int .i64 0, .int .i64 0, .int .i64 0, .int .i64 0]) 32 Tryd.underlying42 info49 rfl _ k sh (by rfl) (Kd.C_below HSk.out (below_alloc (below_drew (Below.refl _ _)) _)) _ (shareF l1 F (rd_T47 l1 k) left sh) (by rfl) (World.news_of_block (heap_alloc_new _ _)) (by simp only [maxLen]; omega) (by omega) ?_
        intro v2 w2 HR3 hg2
        obtain ⟨z0, z1, z2, z3, z4⟩ := hHeld1
        refine hK.out _ _ ⟨World.grownBy.cell hg2 z0 (by simp), World.grownBy.cell hg2 z1 (by simp), World.grownBy.cell hg2 z2 (by simp), World.grownBy.cell hg2 z3 (by simp), World.grownBy.cell hg2 z4 (by simp)⟩ (fun hHeld2 => ?_)
        clear hK K hHeld
        have HG2 := Aside0.mk (blk_grown (blk_alloc (blk_drew HGj.out) _) hg2 (by simp))
        have HW2 := Aside0.mk (((grownBy_drew HW.out).trans (World.grownBy_alloc _ _ _)).trans (grownBy_but hg2 _))
        have HR2 := Aside0.mk HR3
        have hw2 : wr.heap.size ≤ w2.heap.size := by have := hg2.size; simp at this; omega
        obtain ⟨A2, c2, hv2⟩ := Kd.R_slice HR3
        clear HR3 hg2
        subst hv2
        try simp only [Act.put, List.setIfInBounds_toArray, List.set_cons_zero, List.set_cons_succ]
        refine' wpAnyH_take (i := 18) (v := _) rfl (by kernel_rfl) (by kernel_rfl) (by kernel_rfl) (fun _ _ _ h => h) (Or.inl ⟨by rfl, ?hy18⟩) (by assumption) ?rest18
        case hy18 => (intro W hSw; (try dsimp only at hSw); go_simp; try (with_reducible rfl))
        try simp only [Act.put, List.setIfInBounds_toArray, List.set_cons_zero, List.set_cons_succ]
        refine' wpAnyH_take (i := 19) (v := _) rfl (by kernel_rfl) (by kernel_rfl) (by kernel_rfl) (fun _ _ _ h => h) (Or.inl ⟨by rfl, ?hy19⟩) (by assumption) ?rest19
        case hy19 => (intro W hSw; (try dsimp only at hSw); go_simp; try (with_reducible rfl))
        try simp only [Act.put, List.setIfInBounds_toArray, List.set_cons_zero, List.set_cons_succ]
        refine wpAnyH_done (by kernel_rfl) ?_ _
        have hst := (blk_cell HG2.out 9).trans (show _ = some (Value.slice As sh.length cs) from rfl)
        have hsf := blk_frozen HG2.out 9
        refine lastQ_step rfl (fun K hK => ?_)
        go_simp
        refine hK _ _ ?_
        clear hK K hHeld2 hst hsf z0 z1 z2 z3 z4
        have HG3 := Aside0.mk ((blk_set HG2.out 9 (.slice A2 (sh ++ [shareF l1 F (rd_T47 l1 k) left sh]).length c2)).trans (show _ = some (Obj.cells (bookCells Sl (.slice (some ad1) l1.length c1) D (left2F (rd_T47 l1 k) left) mb (.slice A2 (sh ++ [shareF l1 F (rd_T47 l1 k) left sh]).length c2)) 86 (0, 0)) from rfl))
        have HW3 := Aside0.mk (grownBy_setCell HW2.out 9 (.slice A2 (sh ++ [shareF l1 F (rd_T47 l1 k) left sh]).length c2))
        have HR3 := Aside0.mk (Kd.R_set (Kd.R_lower HR2.out (show w0.heap.size ≤ _ by have := hbwr.size; simp; omega)) HG2.out (by decide) 9 (.slice A2 (sh ++ [shareF l1 F (rd_T47 l1 k) left sh]).length c2))
        have hl3 : (sh ++ [shareF l1 F (rd_T47 l1 k) left sh]).length = k + 1 := by simp [hsh]
        rw [hl3] at HG3 HW3 HR3
        try rw [hl3]
        generalize hW3 : w2.setCell ⟨g, 9, none⟩ (.slice A2 (k + 1) c2) = W3 at HG3 HW3 HR3 ⊢
        clear hW3 HR2 HG2 HW2
        have hS3 := (blk_cell (blk_grown HS.out HW3.out (by simpa using blk_ne HS.out HG.out (by decide))) 0).trans (show _ = some (Value.func (.func 77) #[] (cap77 X B Sv)) from rfl)
        unfold cap77 at hS3
        go_wp2_with (fail)
        have HB3 := Aside0.mk (pw_below_grown hbw (some g) hbw.size HW3.out (fun q hq => by cases hq; exact hge))
        refine (HIH.out (k + 1) (left2F (rd_T47 l1 k) left) (.slice A2 (k + 1) c2) (sh ++ [shareF l1 F (rd_T47 l1 k) left sh]) W3 (by omega) (blk_grown HFA.out HW3.out (by simpa using blk_ne HFA.out HG.out (by decide))) (blk_grown HX.out HW3.out (by simpa using nXg)) (blk_grown HBB.out HW3.out (by simpa using nBg)) (blk_grown HS.out HW3.out (by simpa using blk_ne HS.out HG.out (by decide))) HG3.out (SpotMap.kept HM.out HW3.out (by simpa using SpotMap.ne HM.out HG.out)) hge HR3.out hl3 ?g1 ?g2 ?g3 HB3.out).mono ?_
        case g1 => rw [left2F, leftOf_len, left1F, List.length_set]; exact hl
        case g2 => exact leftOf_ok HL1.out (by omega)
        case g3 =>
          intro s hs
          rcases List.mem_append.1 hs with hs | hs
          · exact HSS.out s hs
          · rw [List.mem_singleton.1 hs]
            have h1 := listedF_le l1 (rd_T47 l1 k).f1 sh F (wantF (rd_T47 l1 k) left).toNat
            have h2 := HWB.out
            show 0 ≤ ((listedF l1 (rd_T47 l1 k).f1 sh F (wantF (rd_T47 l1 k) left).toNat : Nat) : Int) ∧ ((listedF l1 (rd_T47 l1 k).f1 sh F (wantF (rd_T47 l1 k) left).toNat : Nat) : Int) ≤ 20
            omega
        rintro e w4 ⟨rfl, sv', hg4, hr4, hgr4, hb4⟩
        have H4 := Aside0.mk (And.intro hg4 (And.intro hr4 (And.intro (HW3.out.trans hgr4) hb4)))
        clear hg4 hr4 hgr4 hb4
        go_wp2
        first | go_end0 | refine bodyPost_ret (results_none rfl _ _ _) rfl ?_
        exact ⟨rfl, sv', H4.out.1, H4.out.2.1, H4.out.2.2.1, H4.out.2.2.2⟩
end Go.Proofs.YtegpepnmnlockaaDoor.PL
namespace Go.Proofs.YtegpepnmnlockaaDoor.PL
open Go.RowKit Go.Proofs.YtegpepnmnlockaaDoorW.PrintWords Go.Proofs.YtegpepnmnlockaaDoorW.PrintLast Go.Proofs.YtegpepnmnlockaaDoorW.PrintMore
attribute [local go_sem] max2_int min2_int max_two min_two max_three min_three max_four min_four
attribute [local go_sem ↓] Go.wp_at_zero Go.wp_at_succ
set_option linter.unusedVariables false
set_option linter.unusedSimpArgs false
theorem grownBy_setRow (w : World) (g : Nat) (cs : Array Value) : w.grownBy (w.setRow g cs) (some g) :=
  ⟨rfl, rfl, rfl, by simp [World.setRow], fun k _ hne => by
    simp only [World.setRow, Array.getElem?_modify]
    rw [if_neg (fun e => hne (by rw [e]))]⟩
theorem heap_alloc_two (w : World) (o o' : Obj) : ((w.alloc o).alloc o').heap[w.heap.size + 1]? = some o' := by rw [← World.size_alloc w o]; exact heap_alloc_new _ _
theorem flatI : Flat (Kd.int .i64) (fun x => [Value.int .i64 x]) where
  len := fun _ => rfl
  pos := by decide
  K := fun h => h
  M := fun w base ok x => rfl
  one := fun x u hu => by
    rw [List.mem_singleton.1 hu]
    rfl
/-- The stock when the first line is served. -/
def left0 (l0 : List Int) : List Int := l0 ++ List.replicate (5 - l0.length) 0
theorem left0_len {l0 : List Int} (h : l0.length ≤ 5) : (left0 l0).length = 5 := by simp [left0]; omega
theorem left0_cells (S L D : Value) (mb : Nat) (sv : Value) : ∀ l0 : List Int, 1 ≤ l0.length → l0.length ≤ 5 →
    ((bookCells S L D [0, 0, 0, 0, 0] mb sv).toList.take 3 ++ l0.flatMap (fun x => [Value.int .i64 x]) ++ (bookCells S L D [0, 0, 0, 0, 0] mb sv).toList.drop (3 + (l0.flatMap (fun x => [Value.int .i64 x])).length)).toArray = bookCells S L D (left0 l0) mb sv
  | [a], _, _ => rfl
  | [a, b], _, _ => rfl
  | [a, b, c], _, _ => rfl
  | [a, b, c, d], _, _ => rfl
  | [a, b, c, d, e], _, _ => rfl
  | a :: b :: c :: d :: e :: f :: l, _, h => by simp at h
/-- What served leaves at block g. -/
structure BookAt (w0 w : World) (g : Nat) (S D : Value) (A1 : Option Addr) (c1 : Nat) (l1 : List S47) (left : List Int) (mb n : Nat) (F : Int → Int → Int) (sv : Value) (sh : List S49) : Prop where
  cells : w.heap[g]? = some (.cells (bookCells S (.slice A1 l1.length c1) D left mb sv) 86 (0, 0))
  map : SpotMap w mb n F
  small : n ≤ 1000
  rows : Kd.R k49 49 w w0.heap.size (fun _ => True) sv sh
  new : w0.heap.size ≤ g
  below : Below w0.heap.size w0 w
set_option maxHeartbeats 8000000 in
set_option maxRecDepth 100000 in
theorem served_calls (A0 A1 A2 : Option Addr) (c0 c1 c2 : Nat) (l0 : List Int) (l1 : List S47) (l2 : List S57) (w : World)
    (h0 : Kd.C (Kd.int .i64) w A0 l0.length l0) (hc0 : l0.length ≤ c0) (h1 : Kd.C k47 w A1 l1.length l1) (hc1 : l1.length ≤ c1) (h2 : Kd.C k57 w A2 l2.length l2) (hc2 : l2.length ≤ c2)
    (hfa : Fates w) (z1 : 1 ≤ l0.length) (z2 : l0.length ≤ 5) (z3 : ∀ x ∈ l0, 0 ≤ x ∧ x ≤ 50) (z4 : l1.length ≤ 10) (z5 : ∀ x ∈ l1, OkLine x) (z6 : l2.length ≤ 6) (z7 : ∀ y ∈ l2, OkDel y) :
    Calls Tryd.prog 70 #[.agg #[.slice A0 l0.length c0, .slice A1 l1.length c1, .slice A2 l2.length c2]] w fun e w' => ∃ g mb n sv, e = .returned (.pointer (some ⟨g, 0, none⟩)) ∧
      BookAt w w' g (.slice A0 l0.length c0) (.slice A2 l2.length c2) A1 c1 l1 (serveF l1 (comTo l2 l2.length) l1.length 0 (left0 l0, [])).1 mb n (comTo l2 l2.length) sv (serveF l1 (comTo l2 l2.length) l1.length 0 (left0 l0, [])).2 := by
  have H0 := Aside0.mk h0
  have H1 := Aside0.mk h1
  have H2 := Aside0.mk h2
  have HFA := Aside0.mk hfa
  have Z3 := Aside0.mk z3
  have Z5 := Aside0.mk z5
  have Z7 := Aside0.mk z7
  clear h0 h1 h2 hfa z3 z5 z7
  have hmf : ∀ (fn : Fn) (first cap : Array Value) (w : World), (Instr.makeFunc fn first cap).run Tryd.prog w = .ok (.func fn first cap) w := fun _ _ _ _ => rfl
  have hu26 := Tryd.underlying26
  have hu86 := Tryd.underlying86
  go_enter Tryd.func70, Tryd.ntmps70
  go_upto_region 1 with (fail)
  go_cut [3] (fun v3 wc => ∃ B g mb n : Nat, v3 = .pointer (some ⟨B, 0, none⟩) ∧ Aside0 (wc.heap[B]? = some (.cells #[.pointer (some ⟨g, 0, none⟩)] 79 (0, 0))) ∧
    Aside0 (wc.heap[g]? = some (.cells (bookCells (.slice A0 l0.length c0) (.slice A1 l1.length c1) (.slice A2 l2.length c2) [0, 0, 0, 0, 0] mb (.slice none 0 0)) 86 (0, 0))) ∧ n ≤ 1000 ∧
    Aside0 (SpotMap wc mb n (comTo l2 l2.length)) ∧ Aside0 (Below w.heap.size w wc) ∧ w.heap.size ≤ g ∧ Aside0 (wc.heap[w.heap.size]? = some (.cells #[.slice A0 l0.length c0, .slice A1 l1.length c1, .slice A2 l2.length c2] 26 (0, 0))))
  case first =>
    go_region_held3 (fun W => W.cell? ⟨w.heap.size, 0, none⟩ = some (.slice A0 l0.length c0) ∧ W.cell? ⟨w.heap.size, 1, none⟩ = some (.slice A1 l1.length c1) ∧ W.cell? ⟨w.heap.size, 2, none⟩ = some (.slice A2 l2.length c2)) (go_keep)
      ((go_at_call 75; (with_reducible refine (coming_calls A2 c2 l2 _ (Kd.C_below H2.out (by repeat (first | exact Below.refl _ _ | apply below_alloc | apply below_drew))) hc2 Z7.out z6).mono ?_); rintro e w2 ⟨mb, n, rfl, hmb, hn, hm, hb2⟩; have q0 := pw_cell_below hb2 (a := ⟨w.heap.size, 0, none⟩) (v := .slice A0 l0.length c0) (by simp); have q1 := pw_cell_below hb2 (a := ⟨w.heap.size, 1, none⟩) (v := .slice A1 l1.length c1) (by simp); have q2 := pw_cell_below hb2 (a := ⟨w.heap.size, 2, none⟩) (v := .slice A2 l2.length c2) (by simp); have HM := Aside0.mk hm; have HB2 := Aside0.mk hb2; clear hm; (first | (have hbx := blk_below (blk_drew (heap_alloc_new (w.alloc (.cells #[.slice A0 l0.length c0, .slice A1 l1.length c1, .slice A2 l2.length c2] 26)) (.cells #[.pointer none] 79))) hb2; rw [World.size_alloc] at hbx; have q3 := all_alloc ((blk_cell hbx 0).trans (show _ = some (Value.pointer none) from rfl)); have q4 := fun o => blk_frozen (blk_alloc hbx o) 0; have HBX := Aside0.mk hbx; clear hbx) | skip); clear hb2))
    all_goals
      have HB3 := Aside0.mk (below_step (w := w) (by repeat (first | exact Below.refl _ _ | apply below_alloc | apply below_drew)) HB2.out)
      have hz := below_size HB3.out
      have HX2 : Aside0 (w2.heap[w.heap.size]? = some (.cells #[.slice A0 l0.length c0, .slice A1 l1.length c1, .slice A2 l2.length c2] 26 (0, 0))) := ⟨by first | exact blk_below (blk_drew (heap_alloc_new w _)) HB2.out | exact blk_below (blk_drew (blk_alloc (heap_alloc_new w _) _)) HB2.out⟩
      go_wp2
      go_meet
      case rel =>
        first
        | exact ⟨w2.heap.size + 1, w2.heap.size, mb, n, rfl, ⟨heap_alloc_two w2 _ _⟩, ⟨blk_alloc (heap_alloc_new w2 _) _⟩, hn, ⟨HM.out.below (below_alloc (below_alloc (Below.refl _ _) _) _)⟩, ⟨below_alloc (below_alloc HB3.out _) _⟩, hz, ⟨blk_alloc (blk_alloc HX2.out _) _⟩⟩
        | exact ⟨w2.heap.size, w2.heap.size + 1, mb, n, rfl, ⟨blk_alloc (heap_alloc_new w2 _) _⟩, ⟨heap_alloc_two w2 _ _⟩, hn, ⟨HM.out.below (below_alloc (below_alloc (Below.refl _ _) _) _)⟩, ⟨below_alloc (below_alloc HB3.out _) _⟩, Nat.le_succ_of_le hz, ⟨blk_alloc (blk_alloc HX2.out _) _⟩⟩
        | exact ⟨w.heap.size + 1, w2.heap.size, mb, n, rfl, ⟨blk_put (blk_alloc HBX.out _) 0 _ rfl⟩, ⟨blk_far (p := ⟨w.heap.size + 1, 0, none⟩) (heap_alloc_new w2 _) (by have := blk_lt HBX.out; simp; omega) _⟩, hn, ⟨SpotMap.kept (row := some (w.heap.size + 1)) HM.out (grownBy_setCell (World.grownBy_alloc w2 _ _) 0 _) (by simpa using SpotMap.ne HM.out HBX.out)⟩, ⟨(below_alloc HB3.out _).setCell (p := ⟨w.heap.size + 1, 0, none⟩) (Nat.le_succ _) _⟩, hz, ⟨blk_far (p := ⟨w.heap.size + 1, 0, none⟩) (blk_alloc HX2.out _) (by simp) _⟩⟩
  case rest =>
    obtain ⟨B, g, mb, n, rfl, HB, HG, hn, HM, HW, hg, HX⟩ := hcut
    have ha0 : ∃ a0 : Addr, A0 = some a0 := by
      obtain ⟨a, e, _⟩ := H0.out.2.2 (by omega)
      exact ⟨a, e⟩
    obtain ⟨a0, rfl⟩ := ha0
    have hcc := Kd.C_below H0.out HW.out
    have cB := (blk_cell HB.out 0).trans (show _ = some (Value.pointer (some ⟨g, 0, none⟩)) from rfl)
    have cX := (blk_cell HX.out 0).trans (show _ = some (Value.slice (some a0) l0.length c0) from rfl)
    have hln : (l0.flatMap fun x => [Value.int .i64 x]).length = l0.length := (flatI.olds l0).trans (Nat.mul_one _)
    have hcopy := run_copy_row Tryd.prog wc.drew 22 22 3 3 g 3 5 5 a0 l0.length c0 _ 86 (l0.flatMap fun x => [Value.int .i64 x]) Tryd.underlying22 (by kernel_rfl) (blk_drew HG.out) (by rw [hln]; exact (Nat.min_eq_left z2).symm) (flatI.cells (Kd.C_below H0.out (below_drew HW.out))) (by rw [hln]; show 3 + l0.length ≤ 10; omega) (fun v hv => by obtain ⟨x, -, hx⟩ := List.mem_flatMap.1 hv; rw [List.mem_singleton.1 hx]; rfl)
    rw [left0_cells _ _ _ _ _ l0 z1 z2, hln] at hcopy
    clear hcc
    go_wp2
    go_region
    have HG3 := Aside0.mk (setRow_heap wc.drew g _ (bookCells (.slice (some a0) l0.length c0) (.slice A1 l1.length c1) (.slice A2 l2.length c2) (left0 l0) mb (.slice none 0 0)) 86 (0, 0) (blk_drew HG.out))
    have HW3 := Aside0.mk (grownBy_setRow wc.drew g (bookCells (.slice (some a0) l0.length c0) (.slice A1 l1.length c1) (.slice A2 l2.length c2) (left0 l0) mb (.slice none 0 0)))
    clear hcopy
    generalize wc.drew.setRow g (bookCells (.slice (some a0) l0.length c0) (.slice A1 l1.length c1) (.slice A2 l2.length c2) (left0 l0) mb (.slice none 0 0)) = W3 at HG3 HW3 ⊢
    have HB3 : Aside0 (W3.heap[B]? = some (.cells #[.pointer (some ⟨g, 0, none⟩)] 79 (0, 0))) := ⟨blk_grown (blk_drew HB.out) HW3.out (by simpa using blk_ne HB.out HG.out (by decide))⟩
    have HX3 : Aside0 (W3.heap[w.heap.size]? = some (.cells #[.slice (some a0) l0.length c0, .slice A1 l1.length c1, .slice A2 l2.length c2] 26 (0, 0))) := ⟨blk_grown (blk_drew HX.out) HW3.out (by simpa using blk_ne HX.out HG.out (by decide))⟩
    have HF3 : Aside0 (Fates W3) := ⟨blk_grown (blk_drew (blk_below HFA.out HW.out)) HW3.out (by simpa using blk_ne (blk_below HFA.out HW.out) HG.out (by decide))⟩
    have HM3 : Aside0 (SpotMap W3 mb n (comTo l2 l2.length)) := ⟨SpotMap.kept (SpotMap.drew HM.out) HW3.out (by simpa using SpotMap.ne HM.out HG.out)⟩
    have HL3 : Aside0 (Below w.heap.size w W3) := ⟨pw_below_grown (below_drew HW.out) (some g) (below_size (below_drew HW.out)) HW3.out (fun q hq => by cases hq; exact hg)⟩
    clear HG HB HX HFA HM HW HW3 cB cX
    have cB := (blk_cell HB3.out 0).trans (show _ = some (Value.pointer (some ⟨g, 0, none⟩)) from rfl)
    go_wp2_with (fail)
    have HG4 := Aside0.mk (blk_alloc HG3.out (Obj.cells #[Value.func (Fn.func 77) #[] (cap77 w.heap.size B W3.heap.size)] 113))
    have hcall := serve_calls w w.heap.size B W3.heap.size g mb n (.slice (some a0) l0.length c0) (.slice A2 l2.length c2) A1 c1 l1 (comTo l2 l2.length) H1.out hc1 z4 Z5.out l1.length 0 (left0 l0) (.slice none 0 0) [] (W3.alloc (Obj.cells #[Value.func (Fn.func 77) #[] (cap77 w.heap.size B W3.heap.size)] 113)) (by omega)
      (blk_alloc HF3.out _) (blk_alloc HX3.out _) (blk_alloc HB3.out _) (heap_alloc_new _ _) HG4.out (HM3.out.below (below_alloc (Below.refl _ _) _)) hg (Kd.R_nil _ _ _ _ _) rfl (left0_len z2)
      (fun x hx => by
        rcases List.mem_append.1 hx with h | h
        · exact Z3.out x h
        · rw [List.eq_of_mem_replicate h]; omega) (fun s hs => by simp at hs) (below_alloc HL3.out _)
    rw [show ((0 : Nat) : Int) = 0 from rfl] at hcall
    unfold cap77 at hcall
    refine hcall.mono ?_
    rintro e w4 ⟨rfl, sv', hg4, hr4, hgr4, hb4⟩
    have H4 := Aside0.mk (And.intro hg4 (And.intro hr4 (And.intro (SpotMap.kept (HM3.out.below (below_alloc (Below.refl _ _) _)) hgr4 (by simpa using SpotMap.ne HM3.out HG3.out)) hb4)))
    have cB4 := (blk_cell (blk_grown (blk_alloc HB3.out _) hgr4 (by simpa using blk_ne HB3.out HG3.out (by decide))) 0).trans (show _ = some (Value.pointer (some ⟨g, 0, none⟩)) from rfl)
    clear hg4 hr4 hgr4 hb4 hcall
    go_wp2
    first | go_end0 | refine bodyPost_ret (results_tmp rfl _ _ _) rfl ?_
    exact ⟨g, mb, n, sv', rfl, ⟨H4.out.1, H4.out.2.2.1, hn, H4.out.2.1, hg, H4.out.2.2.2⟩⟩
end Go.Proofs.YtegpepnmnlockaaDoor.PL
namespace Go.Proofs.YtegpepnmnlockaaDoor.PL
open Go.RowKit Go.Proofs.YtegpepnmnlockaaDoorW.PrintWords Go.Proofs.YtegpepnmnlockaaDoorW.PrintLast Go.Proofs.YtegpepnmnlockaaDoorW.PrintMore
set_option linter.unusedVariables false
set_option linter.unusedSimpArgs false
/-- Does a number lie between two? Does a span? -/
def wthB (a b c : Int) : Bool := decide (b ≤ a ∧ a ≤ c)
def spnB (x : S55) (c d : Int) : Bool := decide (c ≤ x.f0 ∧ x.f0 ≤ x.f1 ∧ x.f1 ≤ d)
def lineB (n : Int) (x : S47) : Bool := wthB x.f0 0 9 && wthB x.f1 0 (n - 1) && wthB x.f2 1 20 && wthB x.f3 0 100 && wthB x.f4 (-1) (n - 1) && x.f4 != x.f1
def delB (n : Int) (x : S57) : Bool := wthB x.f0 0 (n - 1) && spnB x.f1 1 100 && spnB x.f2 0 50
def chkS (l0 : List Int) (b : Bool) : Nat → Bool
  | 0 => b
  | i + 1 => chkS l0 b i && wthB (rd l0 (i : Nat)) 0 50
def chkL (n : Int) (l1 : List S47) (b : Bool) : Nat → Bool
  | 0 => b
  | i + 1 => chkL n l1 b i && lineB n (rd_T47 l1 (i : Nat))
def chkD (n : Int) (l2 : List S57) (b : Bool) : Nat → Bool
  | 0 => b
  | i + 1 => chkD n l2 b i && delB n (rd_T57 l2 (i : Nat))
def lenB (l0 : List Int) (l1 : List S47) (l2 : List S57) : Bool := wthB l0.length 1 5 && wthB l1.length 1 10 && decide ((l2.length : Int) ≤ 6)
def chkV (b : Bool) : Int := if b = true then 0 else 100
theorem within_any (a b c : Int) (w : World) : Calls Tryd.prog 50 #[.int .i64 a, .int .i64 b, .int .i64 c] w fun e w' => e = .returned (.bool (wthB a b c)) ∧ Drawn0 w w' :=
  lack_within.calls a b c _ w (by unfold lack_within.f wthB; by_cases h : b ≤ a <;> simp [h])
theorem isSpan_any (x : S55) (c d : Int) (w : World) : Calls Tryd.prog 69 #[.agg #[.int .i64 x.f0, .int .i64 x.f1], .int .i64 c, .int .i64 d] w fun e w' => e = .returned (.bool (spnB x c d)) ∧ Below w.heap.size w w' :=
  lack_isSpan.calls x.f0 x.f1 c d _ w (by unfold lack_isSpan.f spnB; by_cases h : c ≤ x.f0 <;> by_cases h2 : x.f0 ≤ x.f1 <;> simp [h, h2])
set_option maxHeartbeats 8000000 in
set_option maxRecDepth 100000 in
theorem Check_walk (A0 A1 A2 : Option Addr) (c0 c1 c2 : Nat) (l0 : List Int) (l1 : List S47) (l2 : List S57) (w : World)
    (h0 : Kd.C (Kd.int .i64) w A0 l0.length l0) (hc0 : l0.length ≤ c0) (h1 : Kd.C k47 w A1 l1.length l1) (hc1 : l1.length ≤ c1) (h2 : Kd.C k57 w A2 l2.length l2) (hc2 : l2.length ≤ c2)
    (hf0 : (l0.length : Int) < 9000000000000000000) (hf1 : (l1.length : Int) < 9000000000000000000) (hf2 : (l2.length : Int) < 9000000000000000000) :
    Calls Tryd.prog 44 #[.agg #[.slice A0 l0.length c0, .slice A1 l1.length c1, .slice A2 l2.length c2]] w fun e w' => e = .returned (.int .i64 (chkV (chkD l0.length l2 (chkL l0.length l1 (chkS l0 (lenB l0 l1 l2) l0.length) l1.length) l2.length))) ∧ Below w.heap.size w w' := by
  have H0 := Aside0.mk h0
  have H1 := Aside0.mk h1
  have H2 := Aside0.mk h2
  have F0 := Aside0.mk hf0
  have F1 := Aside0.mk hf1
  have F2 := Aside0.mk hf2
  have hwn : IntKind.i64.wrap ((l0.length : Int) - 1) = (l0.length : Int) - 1 := by rw [IntKind.wrap_i64]; omega
  clear h0 h1 h2 hc0 hc1 hc2 hf0 hf1 hf2
  have hu26 := Tryd.underlying26
  have HW1 := Aside0.mk (below_alloc (Below.refl w.heap.size w) (.cells #[.slice A0 l0.length c0, .slice A1 l1.length c1, .slice A2 l2.length c2] 26))
  have HX := Aside0.mk (heap_alloc_new w (.cells #[.slice A0 l0.length c0, .slice A1 l1.length c1, .slice A2 l2.length c2] 26))
  go_enter Tryd.func44, Tryd.ntmps44
  go_upto_region 1 with (fail)
  generalize w.alloc (Obj.cells #[Value.slice A0 l0.length c0, .slice A1 l1.length c1, .slice A2 l2.length c2] 26) = W1 at HW1 HX ⊢
  have PX0 := Aside0.mk ((blk_cell HX.out 0).trans (show _ = some (Value.slice A0 l0.length c0) from rfl))
  have PX1 := Aside0.mk ((blk_cell HX.out 1).trans (show _ = some (Value.slice A1 l1.length c1) from rfl))
  have PX2 := Aside0.mk ((blk_cell HX.out 2).trans (show _ = some (Value.slice A2 l2.length c2) from rfl))
  have q0 := PX0.out
  have q1 := PX1.out
  have q2 := PX2.out
  go_upto_region 2 with (fail)
  go_cut [4] (fun v4 wc => v4 = .bool (lenB l0 l1 l2) ∧ Aside0 (Below W1.heap.size W1 wc))
  case first =>
    go_wp2_with ((go_at_call 50; (with_reducible refine (within_any _ _ _ _).mono ?_); rintro e w2 ⟨rfl, ⟨nd, rfl⟩⟩))
    all_goals
      go_meet
      case rel => exact ⟨by unfold lenB; simp [*], ⟨by repeat (first | exact Below.refl _ _ | apply below_drew | apply pw_below_drewN)⟩⟩
  case rest =>
    obtain ⟨rfl, HB⟩ := hcut
    clear q0 q1 q2
    have q0 := pw_cell_below HB.out PX0.out
    obtain ⟨b0, hb0⟩ : ∃ b, b = lenB l0 l1 l2 := ⟨_, rfl⟩
    rw [← hb0]
    have G0 := Aside0.mk hb0
    clear hb0
    go_wp2_with (fail)
    clear q0
    go_loopw [4, 31] (fun v4 v31 wr => ∃ i : Nat, i ≤ l0.length ∧ v31 = .int .i64 i ∧ v4 = .bool (chkS l0 b0 i) ∧ Aside0 (Below W1.heap.size W1 wr)) (fun _ i _ => l0.length - (intOf i).toNat)
    case atStart => exact ⟨0, by omega, rfl, rfl, HB⟩
    case round =>
      obtain ⟨i, hi, rfl, rfl, HC⟩ := hrel
      by_cases hil : i < l0.length
      · obtain ⟨ad, e, k0⟩ := Kd.at_int (Kd.C_below (Kd.C_below H0.out HW1.out) HC.out) i (by omega) (by omega)
        cases e
        simp only [Int.toNat_natCast] at k0
        have hs := show chkS l0 b0 (i + 1) = (chkS l0 b0 i && wthB (rd l0 (i : Nat)) 0 50) from rfl
        have HS := Aside0.mk hs
        clear hs
        have hwi : IntKind.i64.wrap ((i : Int) + 1) = (i : Int) + 1 := by have := F0.out; rw [IntKind.wrap_i64]; omega
        go_wp2_with ((go_at_call 50; (with_reducible refine (within_any _ _ _ _).mono ?_); rintro e w2 ⟨rfl, ⟨nd, rfl⟩⟩))
        all_goals
          go_roundw
          case rel => exact ⟨i + 1, by omega, by go_num, by rw [HS.out]; simp [*], ⟨by repeat (first | (with_reducible exact HC.out) | apply below_drew | apply pw_below_drewN)⟩⟩
          case measure => simp [intOf]; omega
      · obtain rfl : i = l0.length := by omega
        obtain ⟨b1, hb1⟩ : ∃ b, b = chkS l0 b0 l0.length := ⟨_, rfl⟩
        rw [← hb1]
        have G1 := Aside0.mk hb1
        clear hb1
        have q1 := pw_cell_below HC.out PX1.out
        go_wp2_with (fail)
        clear q1
        go_loopw [4, 44] (fun v4 v44 wr => ∃ i : Nat, i ≤ l1.length ∧ v44 = .int .i64 i ∧ v4 = .bool (chkL l0.length l1 b1 i) ∧ Aside0 (Below W1.heap.size W1 wr)) (fun _ i _ => l1.length - (intOf i).toNat)
        case atStart => exact ⟨0, by omega, rfl, rfl, HC⟩
        case round =>
          obtain ⟨i, hi, rfl, rfl, HD⟩ := hrel
          by_cases hil : i < l1.length
          · obtain ⟨ad, e, k0, k1, k2, k3, k4⟩ := at_T47 (Kd.C_below (Kd.C_below H1.out HW1.out) HD.out) i (by omega) (by omega)
            cases e
            simp only [Int.toNat_natCast] at k0 k1 k2 k3 k4
            have HS := Aside0.mk (show chkL l0.length l1 b1 (i + 1) = (chkL l0.length l1 b1 i && lineB l0.length (rd_T47 l1 (i : Nat))) from rfl)
            have hwi : IntKind.i64.wrap ((i : Int) + 1) = (i : Int) + 1 := by have := F1.out; rw [IntKind.wrap_i64]; omega
            go_wp2_with ((go_at_call 50; (with_reducible refine (within_any _ _ _ _).mono ?_); rintro e w2 ⟨rfl, ⟨nd, rfl⟩⟩))
            all_goals
              go_roundw
              case rel => exact ⟨i + 1, by omega, by go_num, by rw [HS.out]; unfold lineB; simp [*], ⟨by repeat (first | (with_reducible exact HD.out) | apply below_alloc | apply below_drew | apply pw_below_drewN)⟩⟩
              case measure => simp [intOf]; omega
          · obtain rfl : i = l1.length := by omega
            obtain ⟨b2, hb2⟩ : ∃ b, b = chkL l0.length l1 b1 l1.length := ⟨_, rfl⟩
            rw [← hb2]
            have G2 := Aside0.mk hb2
            clear hb2
            have q2 := pw_cell_below HD.out PX2.out
            go_wp2_with (fail)
            clear q2
            go_loopw [4, 89] (fun v4 v89 wr => ∃ i : Nat, i ≤ l2.length ∧ v89 = .int .i64 i ∧ v4 = .bool (chkD l0.length l2 b2 i) ∧ Aside0 (Below W1.heap.size W1 wr)) (fun _ i _ => l2.length - (intOf i).toNat)
            case atStart => exact ⟨0, by omega, rfl, rfl, HD⟩
            case round =>
              obtain ⟨i, hi, rfl, rfl, HE⟩ := hrel
              by_cases hil : i < l2.length
              · obtain ⟨ad, e, k0, k1, k2, k3, k4⟩ := at_T57 (Kd.C_below (Kd.C_below H2.out HW1.out) HE.out) i (by omega) (by omega)
                cases e
                simp only [Int.toNat_natCast] at k0 k1 k2 k3 k4
                have HS := Aside0.mk (show chkD l0.length l2 b2 (i + 1) = (chkD l0.length l2 b2 i && delB l0.length (rd_T57 l2 (i : Nat))) from rfl)
                have hwi : IntKind.i64.wrap ((i : Int) + 1) = (i : Int) + 1 := by have := F2.out; rw [IntKind.wrap_i64]; omega
                have HXA := heap_alloc_new wr (.cells #[.int .i64 (rd_T57 l2 i).f0, .int .i64 (rd_T57 l2 i).f1.f0, .int .i64 (rd_T57 l2 i).f1.f1, .int .i64 (rd_T57 l2 i).f2.f0, .int .i64 (rd_T57 l2 i).f2.f1] 57)
                have HEA := Aside0.mk (below_alloc HE.out (.cells #[.int .i64 (rd_T57 l2 i).f0, .int .i64 (rd_T57 l2 i).f1.f0, .int .i64 (rd_T57 l2 i).f1.f1, .int .i64 (rd_T57 l2 i).f2.f0, .int .i64 (rd_T57 l2 i).f2.f1] 57))
                go_upto_region 16 with (fail)
                generalize wr.alloc (.cells #[.int .i64 (rd_T57 l2 i).f0, .int .i64 (rd_T57 l2 i).f1.f0, .int .i64 (rd_T57 l2 i).f1.f1, .int .i64 (rd_T57 l2 i).f2.f0, .int .i64 (rd_T57 l2 i).f2.f1] 57) = W8 at HXA HEA ⊢
                clear k0 k1 k2 k3 k4
                have m0 := (blk_cell HXA 0).trans (show _ = some (Value.int .i64 (rd_T57 l2 i).f0) from rfl)
                have m1 := (blk_cell HXA 1).trans (show _ = some (Value.int .i64 (rd_T57 l2 i).f1.f0) from rfl)
                have m2 := (blk_cell HXA 2).trans (show _ = some (Value.int .i64 (rd_T57 l2 i).f1.f1) from rfl)
                have m3 := (blk_cell HXA 3).trans (show _ = some (Value.int .i64 (rd_T57 l2 i).f2.f0) from rfl)
                have m4 := (blk_cell HXA 4).trans (show _ = some (Value.int .i64 (rd_T57 l2 i).f2.f1) from rfl)
                clear HXA
                go_wp2_with (first | (go_at_call 50; (with_reducible refine (within_any _ _ _ _).mono ?_); rintro e w2 ⟨rfl, ⟨nd, rfl⟩⟩) | (go_at_call 69; (with_reducible first | (refine (isSpan_any (rd_T57 l2 i).f1 _ _ _).mono ?_) | (refine (isSpan_any (rd_T57 l2 i).f2 _ _ _).mono ?_)); rintro e w3 ⟨rfl, hb3⟩; have m3 := pw_cell_below hb3 (a := ⟨wr.heap.size, 3, none⟩) (v := .int .i64 (rd_T57 l2 i).f2.f0) (by simpa using m3); have m4 := pw_cell_below hb3 (a := ⟨wr.heap.size, 4, none⟩) (v := .int .i64 (rd_T57 l2 i).f2.f1) (by simpa using m4); have HEA := Aside0.mk (below_step (by repeat (first | (with_reducible exact HEA.out) | apply below_drew | apply pw_below_drewN)) hb3); clear hb3))
                all_goals
                  go_roundw
                  case rel => exact ⟨i + 1, by omega, by go_num, by rw [HS.out]; unfold delB; simp [*], ⟨by repeat (first | (with_reducible exact HEA.out) | apply below_alloc | apply below_drew | apply pw_below_drewN)⟩⟩
                  case measure => simp [intOf]; omega
              · obtain rfl : i = l2.length := by omega
                have he : chkD l0.length l2 (chkL l0.length l1 (chkS l0 (lenB l0 l1 l2) l0.length) l1.length) l2.length = chkD l0.length l2 b2 l2.length := by rw [← G0.out, ← G1.out, ← G2.out]
                obtain ⟨b3, hb3⟩ : ∃ b, b = chkD l0.length l2 b2 l2.length := ⟨_, rfl⟩
                rw [← hb3]
                rw [← hb3] at he
                have HE3 := Aside0.mk he
                clear he hb3
                cases b3 with
                | true =>
                  go_wp2
                  go_ret
                  exact ⟨by rw [HE3.out]; rfl, below_step HW1.out HE.out⟩
                | false =>
                  go_wp2
                  go_ret
                  exact ⟨by rw [HE3.out]; rfl, below_step HW1.out HE.out⟩
end Go.Proofs.YtegpepnmnlockaaDoor.PL

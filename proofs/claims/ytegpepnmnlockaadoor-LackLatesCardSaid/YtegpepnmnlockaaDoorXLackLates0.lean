/- Part 0 of a proof: what the last text rests on. -/
import Derived.Test.YtegpepnmnlockaaDoorXLackSurely3
import Derived.Below
import Derived.Deep.Draws
import Derived.Deep.AppendLies
import Derived.Maps.AppendAt
import Derived.OwnWalk
import Derived.Laws.BytesArg
import Derived.Laws.MakeOwn
import Derived.Laws.OwnMore
import Derived.Deep.OwnRows
import Derived.Tactics
import Derived.Lib.ConvBytes
import Derived.Laws.Slices
import Derived.WalkKit
import Derived.KernelRfl
import Derived.RowKit3
import Derived.Deep.LoopGhost
import Derived.Deep.QuietTactic
import Derived.BigQuiet
import Derived.WideLaws
import Derived.Deep.DeepCutAuto
import Derived.Deep.CutBlock
import Derived.Deep.RegionHeld3
import Derived.Laws.Rows
import Derived.Lib.AppendStr
import Derived.ArgAppend
import Derived.Laws.IdiomCopy
import Derived.RowKit
import Derived.OrdersHeld
import Derived.Laws.BitsLemmas
import Derived.Laws.StructEq
import Derived.Maps.OwnOps
import Derived.Maps.OwnSet
import Derived.Maps.Views
import Derived.DeepKeys4
import Derived.Carry
import Derived.WalkLawsBesides
import Derived.WalkSpells
import Derived.WalkArith
import Derived.StillTailTactics
import Derived.RegionTactic
import Derived.BigRegion
import Derived.Deep.DrawnRows
import Derived.ChangeKeysEq
import Derived.Deep.RegionLawGrows
import Derived.Laws.CopyRow
import Derived.Laws.EntriesVeiled
import Derived.Laws.ResultCell
import Derived.RangeFuncNested
import Derived.RangeFuncBound
import Derived.RangeFuncCalls
import Derived.RangeFuncLeaves
import Derived.Shelf.Abstract
import Derived.Shelf.RegionOpen
import Derived.OwnWalkIn
import Derived.TacticsInMore
import Derived.LoopNIn
import Derived.LoopIn
import Derived.Shelf.SlSortCmp.Kit1
import Derived.Shelf.SlLaysF
import Derived.Shelf.SlGeneric
import Derived.Ground.SlsfProg
import Derived.Shelf.SlSortCmp.NoneTotal
import Derived.Deep.RegionLaw
import Derived.Lib.SliceRun
import Derived.Lib.LazyBuf
import Derived.Deep.DeepMust
import Derived.ProofKit
import Derived.OpenShut
import Derived.Deep.Slices
import Derived.SizedLaws
import Derived.LaidMore
import Derived.Stop.Joined
import Derived.Laws.IdiomArrays
import Derived.ChangeOld
import Derived.SevenTiedAt
set_option linter.unusedVariables false
set_option linter.unusedSimpArgs false
namespace Go.Proofs.YtegpepnmnlockaaDoorW.PrintWords
open Go.RowKit
theorem add_plain (g j : Nat) : (⟨g, 0, none⟩ : Addr).add j = ⟨g, j, none⟩ := by unfold Addr.add; split <;> simp_all
section
variable {P : Program} {ops : Array Oper} {rest : List Oper} {o : Oper} {a : Act} {Q : Exit → Act → World → Prop}
end
section
variable {P : Program}
end
section
variable {P : Program} {ops : Array Oper} {rest : List Oper} {o : Oper} {a : Act} {Q : Exit → Act → World → Prop}
end
section
variable {P : Program} {ops : Array Oper} {rest : List Oper} {o : Oper} {a : Act} {Q : Exit → Act → World → Prop}
end
section
variable {P : Program} {ops : Array Oper} {o : Oper} {a : Act} {Q : Exit → Act → World → Prop} {K : Act → World → Prop}
end
section
variable {α : Type} {enc : α → Value} {d : α}
end
section
variable {α : Type} {P : Program} {ops : Array Oper} {rest : List Oper} {o : Oper} {a : Act} {Q : Exit → Act → World → Prop}
end
section
variable {P : Program}
end
section
variable {α : Type} {R R' : α → List Value → Prop} {e : TypeId} {size : Nat} {w w1 : World} {base : Nat} {v : Value} {ps : List α}
end
section
variable {P : Program} {ops : Array Oper} {rest : List Oper} {o : Oper} {a : Act} {Q : Exit → Act → World → Prop} {α : Type} {R : α → List Value → Prop}
end
section
variable {P : Program} {ops : Array Oper} {o : Oper} {a : Act} {Q : Exit → Act → World → Prop} {K : Act → World → Prop} {α : Type} {R : α → List Value → Prop}
end
/-- What is read as_ a row has its cells one behind the other. -/
theorem ReadsRow.inner_ {α : Type} {R : α → List Value → Prop} {size : Nat} {w : World} {ad : Addr} {n : Nat} {ps : List α} (h : ReadsRow R size w (some ad) n ps) :
    ∃ inner, Reps R size ps inner ∧ ∀ j u, inner[j]? = some u → w.cell? (ad.add j) = some u := by
  have key : ∀ m, m ≤ ps.length → ∃ inner, Reps R size (ps.take m) inner ∧ ∀ j u, inner[j]? = some u → w.cell? (ad.add j) = some u := by
    intro m
    induction m with
    | zero => exact fun _ => ⟨[], Reps.none _ _, fun j u hu => by simp at hu⟩
    | succ m ih =>
      intro hm
      obtain ⟨inner, hr, hc⟩ := ih (by omega)
      obtain ⟨ad', he, hcell⟩ := h.2.2 (by have := h.1; omega)
      injection he with he
      subst he
      obtain ⟨c, hcl, hp, hcc⟩ := hcell m _ (List.getElem?_eq_getElem (show m < ps.length by omega))
      refine ⟨inner ++ c, ?_, fun j u hu => ?_⟩
      · rw [List.take_succ_eq_append_getElem (show m < ps.length by omega)]
        exact hr.snoc hp hcl
      · have hil : inner.length = m * size := by rw [hr.1, List.length_take, Nat.min_eq_left (by omega)]
        rcases Nat.lt_or_ge j inner.length with hj | hj
        · rw [List.getElem?_append_left hj] at hu
          exact hc j u hu
        · rw [List.getElem?_append_right hj] at hu
          have := hcc (j - inner.length) u hu
          rwa [hil, Nat.add_sub_cancel' (by omega)] at this
  obtain ⟨inner, hr, hc⟩ := key ps.length (Nat.le_refl _)
  rw [List.take_length] at hr
  exact ⟨inner, hr, hc⟩
section
variable {α : Type} {P : Program}
end
section
variable {P : Program} {ops : Array Oper} {rest : List Oper} {o : Oper} {a : Act} {Q : Exit → Act → World → Prop}
end
namespace Kd
section
variable {α : Type} {d : Kd α} {e : Nat} {w w1 : World} {base : Nat} {ok ok' : Nat → Prop} {v : Value} {xs : List α}
theorem R_own (h : d.R e w base ok v xs) : ∃ inner, w.ownsRow base e d.sz v xs.length inner := by
  obtain ⟨_, inner, ho, _⟩ := h
  exact ⟨inner, ho⟩
end
section
variable {P : Program} {ops : Array Oper} {rest : List Oper} {o : Oper} {a : Act} {Q : Exit → Act → World → Prop} {α : Type}
end
section
variable {P : Program} {ops : Array Oper} {o : Oper} {a : Act} {Q : Exit → Act → World → Prop} {Kc : Act → World → Prop} {α : Type}
end
end Kd
namespace Kd
section
variable {α : Type} {F : Kd α → Kd α} {sz : Nat} {E : List Nat} {hs : ∀ n, (upto F sz E n).sz = sz} {hE : ∀ n q, q ∈ (upto F sz E n).E → q ∈ E}
end
end Kd
namespace Kd
end Kd
namespace Kd
section
variable {α β : Type} {d : Kd α} {d' : Kd β} {e e' : Nat} {w w1 W : World} {base b b' : Nat} {ok ok' okv oku : Nat → Prop} {v u : Value} {xs : List α} {ys : List β}
theorem R_base (h : d.R e w base ok v xs) : ∀ k, v.ownBlock = some k → base ≤ k := by
  obtain ⟨inner, ho⟩ := R_own h
  exact own_base ho
/-- The row's own block is no block that isn't ok. -/
theorem R_away (h : d.R e w base ok v xs) {g : Nat} (hok : ∀ k, ok k → k ≠ g) : some g ≠ v.ownBlock := fun e => hok g (h.1 g e.symm) rfl
theorem R_form (h : d.R e w base ok v xs) (hp : 0 < xs.length) : ∃ g cap, v = .slice (some ⟨g, 0, none⟩) xs.length cap ∧ base ≤ g ∧ g < w.heap.size ∧ ∃ cells, w.heap[g]? = some (.cells cells e (0, 0)) := by
  obtain ⟨inner, ho⟩ := R_own h
  obtain ⟨g, cap, he, hb, hl⟩ := ho.form hp
  obtain ⟨cells, hc⟩ := own_typed ho g (by rw [he]; simp [Value.ownBlock])
  exact ⟨g, cap, he, hb, hl, cells, hc⟩
end
section
variable {w W : World} {A : Option Addr} {n : Nat}
variable {α : Type} {enc : α → Value} {h1 : ∀ x, (enc x).oneCell' = true} {e base g cap : Nat} {ok : Nat → Prop} {xs : List α}
end
section
variable {P : Program} {ops : Array Oper} {rest : List Oper} {o : Oper} {a : Act} {Q : Exit → Act → World → Prop}
variable {α : Type}
end
end Kd
section
variable {P : Program}
end
section
variable {w w1 : World} {base n size : Nat} {e : TypeId} {v : Value} {xs : List Value}
/-- What a run of cells written leaves. -/
theorem setCells_far {g : Nat} : ∀ (vs : List Value) (o : Nat) {w : World} (k : Nat), k ≠ g → (w.setCells g o vs).heap[k]? = w.heap[k]?
  | [], _, _, _, _ => rfl
  | v :: r, o, w, k, hk => by
    rw [World.setCells, setCells_far r (o + 1) k hk]
    exact Below.heap_setCell w ⟨g, o, none⟩ v k hk
theorem setCells_same (g : Nat) : ∀ (vs : List Value) (o : Nat) (w : World), (w.setCells g o vs).os = w.os ∧ (w.setCells g o vs).tape = w.tape ∧ (w.setCells g o vs).output = w.output ∧ (w.setCells g o vs).heap.size = w.heap.size
  | [], _, _ => ⟨rfl, rfl, rfl, rfl⟩
  | v :: r, o, w => by
    obtain ⟨h1, h2, h3, h4⟩ := setCells_same g r (o + 1) (w.setCell ⟨g, o, none⟩ v)
    rw [World.setCells]
    exact ⟨h1, h2, h3, by rw [h4]; simp [World.setCell]⟩
theorem setCells_row {g : Nat} {e : TypeId} : ∀ (vs : List Value) (o : Nat) (w : World) (cur : Array Value), w.heap[g]? = some (.cells cur e (0, 0)) → o + vs.length ≤ cur.size →
    ∃ cur', (w.setCells g o vs).heap[g]? = some (.cells cur' e (0, 0)) ∧ cur'.size = cur.size ∧ cur'.toList = cur.toList.take o ++ vs ++ cur.toList.drop (o + vs.length)
  | [], o, w, cur, h, _ => ⟨cur, h, rfl, by simp⟩
  | v :: r, o, w, cur, h, hl => by
    have h2 := blk_set h o v
    simp only [List.length_cons] at hl
    obtain ⟨cur', h3, h4, h5⟩ := setCells_row r (o + 1) (w.setCell ⟨g, o, none⟩ v) _ h2 (by simp; omega)
    refine ⟨cur', h3, by rw [h4]; simp, ?_⟩
    rw [h5, Array.toList_setIfInBounds]
    have ho : o < cur.toList.length := by rw [Array.length_toList]; omega
    rw [List.take_set, List.drop_set_of_lt (by omega)]
    simp only [List.length_cons]
    rw [show o + 1 + r.length = o + (r.length + 1) by omega]
    congr 1
    rw [List.take_succ_eq_append_getElem ho, List.set_append_right _ _ (by rw [List.length_take]; omega)]
    have ho' : o < cur.size := by omega
    simp [Nat.min_eq_left (Nat.le_of_lt ho')]
end
section
variable {P : Program}
end
namespace Kd
section
variable {α : Type} {d : Kd α} {e : Nat} {w w1 W : World} {base : Nat} {ok ok' : Nat → Prop} {v : Value} {xs : List α}
end
section
variable {P : Program} {ops : Array Oper} {rest : List Oper} {o : Oper} {a : Act} {Q' : Exit → Act → World → Prop} {Kc : Act → World → Prop} {α : Type}
end
end Kd
namespace Kd
section
variable {α : Type} {d : Kd α} {e e' : Nat} {w w1 W : World} {base : Nat} {ok : Nat → Prop} {u v : Value} {xs : List α}
theorem R_typed (h : d.R e w base ok v xs) : ∀ k, v.ownBlock = some k → ∃ cells, w.heap[k]? = some (.cells cells e (0, 0)) := by
  obtain ⟨inner, ho⟩ := R_own h
  exact fun k hk => own_typed ho k hk
theorem R_over' (h : d.R e W base ok u xs) (hty : ∀ k, v.ownBlock = some k → ∃ cells, W.heap[k]? = some (.cells cells e' (0, 0))) (ht : ∀ q, q ∈ e :: d.E → q ≠ e') (hg : W.grownBy w1 v.ownBlock) : d.R e w1 base ok u xs := by
  refine R_mono (R_move (R_bound h) (fun k hk => hg.block k hk.2.2.1 (fun he => ?_))) (fun _ hk => hk.1)
  obtain ⟨_, _, _, q, hq, cells, hc⟩ := hk
  obtain ⟨cells', hc'⟩ := hty k he.symm
  rw [hc] at hc'
  injection hc' with hc'
  injection hc' with _ hc'
  exact ht q hq hc'
end
end Kd
theorem seg_get {α : Type} (a seg : List α) (o : Nat) (h : o + seg.length ≤ a.length) (q : Nat) :
    (a.take o ++ seg ++ a.drop (o + seg.length))[q]? = if q < o then a[q]? else if q < o + seg.length then seg[q - o]? else a[q]? := by
  have hl : (a.take o).length = o := by rw [List.length_take]; omega
  rw [List.append_assoc]
  by_cases h1 : q < o
  · rw [if_pos h1, List.getElem?_append_left (by omega), List.getElem?_take, if_pos h1]
  · rw [if_neg h1, List.getElem?_append_right (by omega), hl]
    by_cases h2 : q < o + seg.length
    · rw [if_pos h2, List.getElem?_append_left (by omega)]
    · rw [if_neg h2, List.getElem?_append_right (by omega), List.getElem?_drop]
      congr 1
      omega
namespace Kd
section
variable {α : Type} {d : Kd α} {e base g n cap : Nat} {ok okp : Nat → Prop} {W : World} {xs : List α}
/-- Element i of a row of one's own: its cells. -/
theorem R_elem (h : d.R e W base ok (.slice (some ⟨g, 0, none⟩) n cap) xs) (z : α) (i : Int) (h0 : 0 ≤ i) (h1 : i < n) :
    ∃ c, c.length = d.sz ∧ d.M W base (fun k => ok k ∧ k ≠ g) (xs.getD i.toNat z) c ∧ (∀ j u, c[j]? = some u → W.cell? ⟨g, i.toNat * d.sz + j, none⟩ = some u) ∧ ∀ j, W.frozen? ⟨g, i.toNat * d.sz + j, none⟩ = false := by
  obtain ⟨hn, hnc, hC⟩ := R_reads' h
  obtain ⟨_, inner, ho, hr⟩ := h
  have hil : i.toNat < xs.length := by omega
  have hseg : i.toNat * d.sz + d.sz ≤ inner.length := by rw [hr.1, ← Nat.succ_mul]; exact Nat.mul_le_mul_right _ hil
  have hM := hr.2 i.toNat _ (List.getElem?_eq_getElem hil)
  refine ⟨(inner.drop (i.toNat * d.sz)).take d.sz, by rw [List.length_take, List.length_drop]; omega, ?_, fun j u hu => ?_, fun j => ?_⟩
  · rw [List.getD_eq_getElem?_getD, List.getElem?_eq_getElem hil]
    exact d.M_mono (fun k hk => ⟨hk.1, fun he => hk.2 (by rw [he]; simp [Value.ownBlock])⟩) hM
  · rw [List.getElem?_take] at hu
    split at hu
    · rw [List.getElem?_drop] at hu
      have := ho.cells (g := g) (by simp [Value.ownBlock]) _ u hu
      rwa [add_plain] at this
    · cases hu
  · obtain ⟨cells, hc⟩ := own_typed ho g (by simp [Value.ownBlock])
    exact blk_frozen hc _
/-- A run of cells of element i is written: element i is x' then. c: the element's cells before (R_elem). -/
theorem R_seg (h : d.R e W base ok (.slice (some ⟨g, 0, none⟩) n cap) xs) (i : Int) (h0 : 0 ≤ i) (h1 : i < n) {c seg : List Value} {j : Nat} (hcl : c.length = d.sz) (hcc : ∀ j u, c[j]? = some u → W.cell? ⟨g, i.toNat * d.sz + j, none⟩ = some u)
    (hj : j + seg.length ≤ d.sz) {x' : α} (hM : d.M W base okp x' (c.take j ++ seg ++ c.drop (j + seg.length))) (hokp : ∀ k, okp k → ok k ∧ k ≠ g) :
    d.R e (W.setCells g (i.toNat * d.sz + j) seg) base ok (.slice (some ⟨g, 0, none⟩) n cap) (xs.set i.toNat x') ∧ W.grownBy (W.setCells g (i.toNat * d.sz + j) seg) (some g) := by
  obtain ⟨hn, hnc, _⟩ := R_reads' h
  obtain ⟨hok, inner, ho, hr⟩ := h
  have hil : i.toNat < xs.length := by omega
  have hseg : i.toNat * d.sz + d.sz ≤ inner.length := by rw [hr.1, ← Nat.succ_mul]; exact Nat.mul_le_mul_right _ hil
  have hin : inner.length = n * d.sz := by rw [hr.1, hn]
  obtain ⟨ho1, ho2⟩ := ho
  rcases ho2 with ⟨hv, _⟩ | ⟨g', cap', cur, hv, hb, hh, hnc', hcm, hcs, ht⟩
  · cases hv
  injection hv with ha _ hc
  injection ha with ha
  injection ha with hg
  subst hg; subst hc
  have hfit : i.toNat * d.sz + j + seg.length ≤ cur.size := by
    have : n * d.sz ≤ cap * d.sz := Nat.mul_le_mul_right _ hnc
    omega
  obtain ⟨cur', h3, h4, h5⟩ := setCells_row seg (i.toNat * d.sz + j) W cur hh hfit
  obtain ⟨s1, s2, s3, s4⟩ := setCells_same g seg (i.toNat * d.sz + j) W
  have hfar : ∀ k, k ≠ g → (W.setCells g (i.toNat * d.sz + j) seg).heap[k]? = W.heap[k]? := fun k hk => setCells_far seg _ k hk
  -- the element's cells before are what was read
  have hcin : ∀ q, q < d.sz → c[q]? = inner[i.toNat * d.sz + q]? := by
    intro q hq
    have hq' : q < c.length := by omega
    have h6 := hcc q _ (List.getElem?_eq_getElem hq')
    rw [cell_of_row W g _ cur e (0, 0) hh] at h6
    rw [List.getElem?_eq_getElem hq', ← h6, ← ht, List.getElem?_take, if_pos (by rw [← hn]; omega), Array.getElem?_toList]
  refine ⟨⟨hok, inner.take (i.toNat * d.sz + j) ++ seg ++ inner.drop (i.toNat * d.sz + j + seg.length), ⟨?_, .inr ⟨g, cap, cur', by rw [List.length_set, hn], hb, h3, by rw [List.length_set, ← hn]; exact hnc, hcm, by rw [h4, hcs], ?_⟩⟩, ?_⟩,
    ⟨s1, s2, s3, by rw [s4]; exact Nat.le_refl _, fun k _ hk => hfar k (fun he => hk (by rw [he]))⟩⟩
  · rw [List.length_set]
    simp only [List.length_append, List.length_take, List.length_drop]
    rw [hr.1] at hseg ⊢
    omega
  · rw [List.length_set, ← hn]
    apply List.ext_getElem?
    intro q
    rw [List.getElem?_take, h5]
    rw [seg_get cur.toList seg (i.toNat * d.sz + j) (by rw [Array.length_toList]; omega) q, seg_get inner seg (i.toNat * d.sz + j) (by omega) q]
    have hcur : ∀ q, q < n * d.sz → cur.toList[q]? = inner[q]? := by
      intro q hq
      rw [← ht, List.getElem?_take, if_pos (by rw [← hn]; exact hq)]
    by_cases hq : q < n * d.sz
    · rw [if_pos hq, hcur q hq]
    · rw [if_neg hq, if_neg (by omega), if_neg (by omega), List.getElem?_eq_none (by omega)]
  · refine ⟨?_, fun m p hm => ?_⟩
    · rw [List.length_set]
      simp only [List.length_append, List.length_take, List.length_drop]
      rw [hr.1] at hseg ⊢
      omega
    · have hml : m < xs.length := by
        have := (List.getElem?_eq_some_iff.1 hm).1
        rwa [List.length_set] at this
      have hmfit : m * d.sz + d.sz ≤ inner.length := by rw [hr.1, ← Nat.succ_mul]; exact Nat.mul_le_mul_right _ hml
      have hgo : some g = (Value.slice (some ⟨g, 0, none⟩) n cap).ownBlock := by simp [Value.ownBlock]
      by_cases hmi : m = i.toNat
      · subst hmi
        rw [List.getElem?_set_self (by omega)] at hm
        injection hm with hm
        subst hm
        have hcells : ((inner.take (i.toNat * d.sz + j) ++ seg ++ inner.drop (i.toNat * d.sz + j + seg.length)).drop (i.toNat * d.sz)).take d.sz = c.take j ++ seg ++ c.drop (j + seg.length) := by
          apply List.ext_getElem?
          intro q
          rw [List.getElem?_take, List.getElem?_drop, seg_get inner seg _ (by omega), seg_get c seg j (by omega) q]
          by_cases hq : q < d.sz
          · rw [if_pos hq, hcin q hq]
            by_cases hq1 : q < j
            · rw [if_pos (by omega), if_pos hq1]
            · rw [if_neg (by omega), if_neg hq1]
              by_cases hq2 : q < j + seg.length
              · rw [if_pos (by omega), if_pos hq2]
                congr 1
                omega
              · rw [if_neg (by omega), if_neg hq2]
          · rw [if_neg hq, if_neg (by omega), if_neg (by omega), List.getElem?_eq_none (by omega)]
        rw [hcells]
        refine d.M_mono (fun k hk => ?_) (d.M_move (w1 := W.setCells g (i.toNat * d.sz + j) seg) (fun k hk => hfar k (hokp k hk).2) hM)
        exact ⟨(hokp k hk).1, fun he => (hokp k hk).2 (by rw [← hgo] at he; injection he)⟩
      · rw [List.getElem?_set_ne (by omega)] at hm
        have hold := hr.2 m p hm
        have hcells : ((inner.take (i.toNat * d.sz + j) ++ seg ++ inner.drop (i.toNat * d.sz + j + seg.length)).drop (m * d.sz)).take d.sz = (inner.drop (m * d.sz)).take d.sz := by
          apply List.ext_getElem?
          intro q
          rw [List.getElem?_take, List.getElem?_take, List.getElem?_drop, List.getElem?_drop, seg_get inner seg _ (by omega)]
          by_cases hq : q < d.sz
          · rw [if_pos hq, if_pos hq]
            rcases Nat.lt_or_gt_of_ne hmi with hlt | hgt
            · have : m * d.sz + d.sz ≤ i.toNat * d.sz := by rw [← Nat.succ_mul]; exact Nat.mul_le_mul_right _ hlt
              rw [if_pos (by omega)]
            · have : i.toNat * d.sz + d.sz ≤ m * d.sz := by rw [← Nat.succ_mul]; exact Nat.mul_le_mul_right _ hgt
              rw [if_neg (by omega), if_neg (by omega)]
          · rw [if_neg hq, if_neg hq]
        rw [hcells]
        refine d.M_move (fun k hk => hfar k (fun he => hk.2 (by rw [he]; exact hgo))) hold
end
end Kd
namespace Kd
section
variable {α : Type} {F : Kd α → Kd α} {sz : Nat} {E : List Nat} {hs : ∀ n, (upto F sz E n).sz = sz} {hE : ∀ n q, q ∈ (upto F sz E n).E → q ∈ E}
end
end Kd
namespace Kd
theorem reps_append {α : Type} {R : α → List Value → Prop} {size : Nat} {ps qs : List α} {cs ds : List Value} (h : Reps R size ps cs) (h' : Reps R size qs ds) : Reps R size (ps ++ qs) (cs ++ ds) := by
  refine ⟨by rw [List.length_append, List.length_append, h.1, h'.1, Nat.add_mul], fun j p hj => ?_⟩
  rcases Nat.lt_or_ge j ps.length with hlt | hge
  · rw [List.getElem?_append_left hlt] at hj
    have hle : j * size + size ≤ cs.length := by rw [h.1, ← Nat.succ_mul]; exact Nat.mul_le_mul_right _ hlt
    rw [List.drop_append_of_le_length (by omega), List.take_append_of_le_length (by rw [List.length_drop]; omega)]
    exact h.2 j p hj
  · rw [List.getElem?_append_right hge] at hj
    have h2 := h'.2 (j - ps.length) p hj
    have hle : ps.length * size ≤ j * size := Nat.mul_le_mul_right _ hge
    rw [List.drop_append, List.drop_eq_nil_of_le (by rw [h.1]; exact hle), List.nil_append, h.1, ← Nat.sub_mul]
    exact h2
section
variable {P : Program} {ops : Array Oper} {rest : List Oper} {o : Oper} {a : Act} {Q : Exit → Act → World → Prop} {α : Type}
/-- append(v, ys...): Rr is what is known of a read element's cells (d.K W; or k<T>.K w0 for a row that came in), hKM: it may stand as_ made. -/
theorem R_append_rows (d : Kd α) {Rr : α → List Value → Prop} {w0 W : World} (base : Nat) (hgd : o.guard = none) (s x : Operand) (t e : TypeId) (z : Value) (bytes : Nat)
    (ho : o.op = .call { callee := .builtin .append, args := #[s, x], argTypes := #[t, t] })
    (ht : P.underlying t = some (.slice e)) (hinfo : (P.info? e).map (fun i => (i.zero, i.size, i.bytes)) = some (some z, d.sz, bytes)) (hz : z.cells.size = d.sz) (hs0 : 0 < d.sz) (hb0 : 0 < bytes)
    (v : Value) (xs ys : List α) (A : Option Addr) (m c : Nat) (ok okp : Nat → Prop) (hs : a.eval s = v) (hx : a.eval x = .slice A m c)
    (HO : d.R e W base ok v xs) (HR : ReadsRow Rr d.sz W A m ys) (hKM : ∀ x cs, Rr x cs → d.M W base okp x cs) (hokp : ∀ k, okp k → ok k ∧ some k ≠ v.ownBlock) (hfresh : ∀ k, W.heap.size ≤ k → ok k)
    (HB : Below base w0 W) (hbase : base ≤ W.heap.size) (hl : (xs.length + m) * bytes ≤ 140737488355328)
    (h : ∀ v1 w1, d.R e w1 base ok v1 (xs ++ ys) → Below base w0 w1 → W.grownBy w1 v.ownBlock → (v1.ownBlock = v.ownBlock ∨ ∃ b, v1.ownBlock = some b ∧ W.heap.size ≤ b) → wpList P ops Q rest (a.put o.dst v1) w1) :
    wpList P ops Q (o :: rest) a W := by
  obtain ⟨i0, hi, hzz⟩ := Option.map_eq_some_iff.1 hinfo
  simp only [Prod.mk.injEq] at hzz
  obtain ⟨hz0, hz1, hz2⟩ := hzz
  have hm : ys.length = m := HR.1
  have hlen : xs.length + m ≤ 140737488355328 := Nat.le_trans (Nat.le_mul_of_pos_right _ hb0) hl
  obtain ⟨hok, inner, hown, hr⟩ := HO
  have hrun : ∃ v1 w1, (Builtin.append_ #[t, t] o.type #[v, .slice A m c]).run P W = .ok v1 w1 ∧ d.R e w1 base ok v1 (xs ++ ys) ∧ W.grownBy w1 v.ownBlock ∧ (v1.ownBlock = v.ownBlock ∨ ∃ b, v1.ownBlock = some b ∧ W.heap.size ≤ b) := by
    rcases A with _ | ad
    · have h0 : m = 0 := by
        rcases Nat.eq_zero_or_pos m with h0 | h0
        · exact h0
        · obtain ⟨ad, h, _⟩ := HR.2.2 h0
          cases h
      subst h0
      obtain rfl : ys = [] := List.eq_nil_of_length_eq_zero hm
      refine ⟨v, W, ?_, by rw [List.append_nil]; exact ⟨hok, inner, hown, hr⟩, World.grownBy.refl W _, .inl rfl⟩
      rcases hown.2 with ⟨rfl, hn⟩ | ⟨g, cap, cur, rfl, _, _, hnc, _⟩
      · simp [Builtin.append_, run_underlying ht, sizeOf, typeInfo, hi, Builtin.lenOf, Builtin.firstCells]
      · simp [Builtin.append_, run_underlying ht, sizeOf, typeInfo, hi, Builtin.lenOf, Builtin.firstCells, hnc, storeCells]
    · obtain ⟨news, hnr, hnc⟩ := ReadsRow.inner_ HR
      have hnM : Reps (d.M W base okp) d.sz ys news := hnr.imp_ (fun p c hp => hKM p c hp)
      have hone : ∀ u ∈ news, u.oneCell' = true := by
        intro u hu
        obtain ⟨q, hq, rfl⟩ := List.mem_iff_getElem.1 hu
        have hql : q / d.sz < ys.length := by
          rw [Nat.div_lt_iff_lt_mul hs0]
          rw [← hnM.1]
          exact hq
        have hc := hnM.2 (q / d.sz) _ (List.getElem?_eq_getElem hql)
        refine d.K_one (d.K_of_M hc) _ ?_
        rw [List.mem_iff_getElem?]
        refine ⟨q % d.sz, ?_⟩
        rw [List.getElem?_take, if_pos (Nat.mod_lt _ hs0), List.getElem?_drop, Nat.mul_comm, Nat.div_add_mod, List.getElem?_eq_getElem hq]
      obtain ⟨v1, w1, hrun, h2, hg, _, hat⟩ := run_append_own_at (P := P) W base t o.type e i0 z d.sz bytes ht hi hz0 hz1 hz2 hz hs0 v xs.length inner hown ad m c news (by rw [hnM.1, hm]) hnc hone (by simp only [maxLen]; omega) hl hbase
      have hat' : v1.ownBlock = v.ownBlock ∨ ∃ b, v1.ownBlock = some b ∧ W.heap.size ≤ b := by
        rcases hat with hat | hat
        · exact .inl hat
        · exact .inr ⟨_, hat, Nat.le_refl _⟩
      have hne : ∀ k, some k ≠ v.ownBlock → k < W.heap.size → some k ≠ v1.ownBlock := by
        intro k hk hlt
        rcases hat' with hat | ⟨b, hb, hle⟩
        · rw [hat]; exact hk
        · rw [hb]
          intro he
          injection he with he
          omega
      have step : ∀ {q : α} {c : List Value} {o : Nat → Prop}, d.M W base o q c → (∀ k, o k → ok k ∧ some k ≠ v.ownBlock) → d.M w1 base (fun k => ok k ∧ some k ≠ v1.ownBlock) q c := by
        intro q c o hq ho
        have h1 := d.M_move (w1 := w1) (fun k hk => hg.block k hk.2.2.1 (ho k hk.1).2) (d.M_bound hq)
        exact d.M_mono (fun k hk => ⟨(ho k hk.1).1, hne k (ho k hk.1).2 hk.2.2.1⟩) h1
      refine ⟨v1, w1, hrun, ⟨fun k hk => ?_, inner ++ news, by rw [List.length_append, hm]; exact h2, reps_append (hr.imp_ (fun _ _ hq => step hq (fun _ hk => hk))) (hnM.imp_ (fun _ _ hq => step hq hokp))⟩, hg, hat'⟩
      rcases hat' with hat | ⟨b, hb, hle⟩
      · exact hok k (hat ▸ hk)
      · rw [hb] at hk
        injection hk with hk
        exact hfresh k (by omega)
  obtain ⟨v1, w1, hr1, h1, hg, hat⟩ := hrun
  refine wpList_plain hgd fun K hK => ?_
  unfold Oper.wp execOp
  simp only [ho, resolve, invoke, builtin, Sem.run_bind, Sem.run_pure, Result.andThen_ok, List.map_toArray, List.map_cons, List.map_nil, hs, hx, hr1]
  exact hK _ _ (h v1 w1 h1 (HB.grown hg hbase (own_base hown)) hg hat)
end
end Kd
namespace Kd
section
variable {P : Program} {ops : Array Oper} {rest : List Oper} {o : Oper} {a : Act} {Q : Exit → Act → World → Prop} {α : Type}
end
end Kd
namespace Kd
section
variable {α : Type} {k : Kd α} {w : World} {A : Option Addr} {xs : List α} {m c : Nat}
end
end Kd
section
variable {P : Program}
end
namespace Kd
section
variable {α β : Type} {d : Kd α} {d' : Kd β} {e e' base base' n : Nat} {ok ok' : Nat → Prop} {w W w1 W1 : World} {v u : Value} {xs : List α} {ys : List β} {A : Option Addr} {c : Nat}
end
section
variable {α : Type} {enc : α → Value} {h1 : ∀ x, (enc x).oneCell' = true} {w W : World} {A : Option Addr} {n g : Nat} {xs : List α}
end
end Kd
namespace Kd
section
variable {α : Type} {d : Kd α} {e base g : Nat} {ok : Nat → Prop} {w w1 : World} {v : Value} {xs : List α} {o : Obj}
theorem R_newB (h : d.R e w1 w.heap.size ok v xs) (hb : w.heap[g]? = some o) : d.R e w1 w.heap.size (fun k => ok k ∧ k ≠ g) v xs := R_mono (R_bound h) (fun k hk => ⟨hk.1, by have := blk_lt hb; have := hk.2.1; omega⟩)
theorem freshB (hb : w.heap[g]? = some o) : ∀ k, w.heap.size ≤ k → k ≠ g := fun k hk => by have := blk_lt hb; omega
end
end Kd
section
variable {P : Program} {ops : Array Oper} {rest : List Oper} {o : Oper} {a : Act} {Q : Exit → Act → World → Prop}
end
namespace Kd
section
variable {α : Type} {enc : α → Value} {h1 : ∀ x, (enc x).oneCell' = true} {e base g n cap : Nat} {ok : Nat → Prop} {W : World} {xs : List α}
end
end Kd
section
variable {P : Program} {ops : Array Oper} {rest : List Oper} {o : Oper} {a : Act} {Q : Exit → Act → World → Prop}
end
namespace Kd
section
variable {α : Type} {enc : α → Value} {h1 : ∀ x, (enc x).oneCell' = true} {e base g n cap : Nat} {ok : Nat → Prop} {W : World} {xs : List α}
end
end Kd
section
variable {P : Program} {ops : Array Oper} {rest : List Oper} {o : Oper} {a : Act} {Q : Exit → Act → World → Prop} {W : World}
end
section
variable {P : Program} {ops : Array Oper} {o : Oper} {a : Act} {Q : Exit → Act → World → Prop} {Kc : Act → World → Prop}
namespace Kd
variable {α : Type}
end Kd
end
section
variable {P : Program} {tmps : Array Value} {w : World}
end
namespace Kd
section
variable {P : Program} {α : Type}
end
section
variable {P : Program} {ops : Array Oper} {rest : List Oper} {o : Oper} {a : Act} {Q : Exit → Act → World → Prop} {Kc : Act → World → Prop} {α : Type}
end
end Kd
end Go.Proofs.YtegpepnmnlockaaDoorW.PrintWords
namespace Go.Proofs.YtegpepnmnlockaaDoorW.PrintWords
open Go.RowKit
namespace Kd
section
variable {α β : Type} {d : Kd α} {d' : Kd β} {e e' : Nat} {w w1 W : World} {base b : Nat} {ok ok' okv oku : Nat → Prop} {u v : Value} {xs : List α} {ys : List β}
/-- A row whose elements lead to nothing: its blocks are its own one. -/
theorem R_tight (hE : d.E = []) (h : d.R e w base ok v xs) : d.R e w base (fun k => some k = v.ownBlock) v xs := by
  obtain ⟨h0, inner, ho, hr⟩ := h
  refine ⟨fun k hk => hk.symm, inner, ho, hr.imp_ (fun p c hp => d.M_mono (fun k hk => ?_) (d.M_bound hp))⟩
  obtain ⟨_, _, _, q, hq, _⟩ := hk
  rw [hE] at hq
  cases hq
end
section
variable {α β : Type} {d : Kd α} {d' : Kd β} {e e' g : Nat} {w w1 W : World} {base b : Nat} {ok ok' okv oku : Nat → Prop} {u v : Value} {xs : List α} {ys : List β}
end
section
variable {P : Program} {ops : Array Oper} {rest : List Oper} {o : Oper} {a : Act} {Q : Exit → Act → World → Prop} {Kc : Act → World → Prop} {α : Type}
end
section
variable {α β : Type} {d : Kd α} {e e' g n cap : Nat} {w w1 W : World} {base : Nat} {ok ok' oki okp : Nat → Prop} {u v : Value} {xs : List α} {i : Int} {c : List Value}
end
section
variable {P : Program} {ops : Array Oper} {rest : List Oper} {o : Oper} {a : Act} {Q : Exit → Act → World → Prop} {α : Type}
end
end Kd
end Go.Proofs.YtegpepnmnlockaaDoorW.PrintWords
namespace Go.Proofs.YtegpepnmnlockaaDoorW.PrintWords
open Go.RowKit
namespace Foot
variable {P Q : World → Prop} {W W1 : World} {ok ok' : Nat → Prop}
end Foot
namespace Kd
section
variable {α β : Type} {d : Kd α} {e base n n' cc g N : Nat} {ok ok' okp S : Nat → Prop} {w w0 w1 W W1 : World} {A A' : Option Addr} {u v v1 : Value} {xs : List α} {xs' : List β} {d' : Kd β} {x : α} {c : List Value}
theorem F_drew (h : F d W ok A n xs) : F d W.drew ok A n xs := F_below h (below_drew (Below.refl _ _))
/-- A new row's block is none of an elder one's. -/
theorem F_elder' (h : F d W ok A n xs) (hbase : ∀ k, v.ownBlock = some k → W.heap.size ≤ k) (hb : Below W.heap.size W W1) : F d W1 (fun k => ok k ∧ some k ≠ v.ownBlock) A n xs :=
  F_mono (Foot.old h hb) (fun k hk => ⟨hk.1, fun he => by have := hbase k he.symm; have := hk.2; omega⟩)
end
end Kd
end Go.Proofs.YtegpepnmnlockaaDoorW.PrintWords
namespace Go.Proofs.YtegpepnmnlockaaDoorW.PrintMore
open Go.RowKit Go.Proofs.YtegpepnmnlockaaDoorW.PrintWords
namespace Kd
open Go.Proofs.YtegpepnmnlockaaDoorW.PrintWords.Kd
end Kd
namespace Kd
open Go.Proofs.YtegpepnmnlockaaDoorW.PrintWords.Kd
section
variable {α : Type} {d : Kd α} {e base g N : Nat} {ok : Nat → Prop} {W w1 : World} {u v : Value} {xs : List α}
end
end Kd
end Go.Proofs.YtegpepnmnlockaaDoorW.PrintMore
namespace Go.Proofs.YtegpepnmnlockaaDoorW.PrintWords
open Go.RowKit
section
variable {P : Program} {ops : Array Oper} {rest : List Oper} {o : Oper} {a : Act} {Q : Exit → Act → World → Prop} {W : World}
/-- The operation is a builtin over these places. -/
theorem gate_builtin {b : Builtin} {xs : Array Operand} {ts : Array TypeId} (_ho : o.op = .call { callee := .builtin b, args := xs, argTypes := ts }) (h : wpList P ops Q (o :: rest) a W) : wpList P ops Q (o :: rest) a W := h
end
namespace Kd
section
variable {α : Type} {d : Kd α} {e base : Nat} {ok : Nat → Prop} {W w1 : World} {v : Value} {xs : List α}
/-- The same, where the row that was written may be none. -/
theorem R_grown2 (h : d.R e W base ok v xs) (hE : d.E = []) {row : Option Nat} (hg : W.grownBy w1 row) (hne : ∀ k, row = some k → some k ≠ v.ownBlock) : d.R e w1 base ok v xs :=
  R_mono (R_grown (R_tight hE h) hg (fun k hk e_ => hne k e_.symm hk)) (fun k hk => h.1 k hk.symm)
end
section
variable {α : Type} {d : Kd α} {e base g n cap : Nat} {ok oki okp : Nat → Prop} {W : World} {xs : List α} {i : Int} {c : List Value}
end
section
variable {α : Type} {d : Kd α} {e base b b' g N : Nat} {ok ok1 : Nat → Prop} {W W2 w1 : World} {u v : Value} {xs ys : List α} {S : Nat → Prop}
end
end Kd
end Go.Proofs.YtegpepnmnlockaaDoorW.PrintWords
namespace Go.Proofs.YtegpepnmnlockaaDoorW.PrintWords
open Go.RowKit
namespace Kd
section
variable {α β : Type} {d : Kd α} {e base base' n m c g N' lo hi : Nat} {ok ok' S : Nat → Prop} {w W w1 : World} {A : Option Addr} {ad : Addr} {u v v1 : Value} {xs : List α}
theorem V_lower (h : V d e W base ok v xs) (_ : base' ≤ base) : V d e W base' ok v xs := h
theorem V_drew (h : V d e W base ok v xs) : V d e W.drew base ok v xs := V_map h (fun _ hf => F_drew hf)
theorem V_elder' (h : V d e W base ok v xs) (hbase : ∀ k, u.ownBlock = some k → W.heap.size ≤ k) (hb : Below W.heap.size W w1) : V d e w1 base (fun k => ok k ∧ some k ≠ u.ownBlock) v xs := V_map h (fun _ hf => F_elder' hf hbase hb)
end
end Kd
end Go.Proofs.YtegpepnmnlockaaDoorW.PrintWords
namespace Go.Proofs.YtegpepnmnlockaaDoor.PL
open Go.RowKit Go.Proofs.YtegpepnmnlockaaDoorW.PrintWords Go.Proofs.YtegpepnmnlockaaDoorW.PrintLast Go.Proofs.YtegpepnmnlockaaDoorW.PrintMore
attribute [local go_sem] max2_int min2_int max_two min_two max_three min_three max_four min_four   -- for this text's walks alone
set_option linter.unusedVariables false
set_option linter.unusedSimpArgs false
theorem k55_openM {w : World} {base : Nat} {ok : Nat → Prop} {x : S55} {cs : List Value} (h : k55.M w base ok x cs) : cs = [.int .i64 x.f0, .int .i64 x.f1] := by
  obtain ⟨_, _, rfl, rfl, rfl⟩ := h
  exact rfl
theorem k57_openM {w : World} {base : Nat} {ok : Nat → Prop} {x : S57} {cs : List Value} (h : k57.M w base ok x cs) : cs = [.int .i64 x.f0, .int .i64 x.f1.f0, .int .i64 x.f1.f1, .int .i64 x.f2.f0, .int .i64 x.f2.f1] := by
  obtain ⟨_, _, rfl, rfl, ⟨_, _, rfl, s1, s3⟩⟩ := h
  obtain rfl := k55_openM s1
  obtain rfl := k55_openM s3
  exact rfl
end Go.Proofs.YtegpepnmnlockaaDoor.PL
namespace Go.Proofs.YtegpepnmnlockaaDoor.PL
open Go.RowKit Go.Proofs.YtegpepnmnlockaaDoorW.PrintWords Go.Proofs.YtegpepnmnlockaaDoorW.PrintLast Go.Proofs.YtegpepnmnlockaaDoorW.PrintMore
attribute [local go_sem] max2_int min2_int max_two min_two max_three min_three max_four min_four   -- for this text's walks alone
set_option linter.unusedVariables false
set_option linter.unusedSimpArgs false
def wishbookref10_isGood.f (l0_0 : List Int) (l0_1 : List (S47)) (l0_2 : List (S57)) (a1 : Int) : Option (Bool) := (wishbookref00_Tween.f a1 0 (wrap64 ((l0_0.length : Int) - 1))).bind fun t105 => (some t105)
set_option maxHeartbeats 8000000 in
set_option maxRecDepth 100000 in
theorem wishbookref10_isGood.calls (A0_0 : Option Addr) (c0_0 : Nat) (l0_0 : List Int) (A0_1 : Option Addr) (c0_1 : Nat) (l0_1 : List (S47)) (A0_2 : Option Addr) (c0_2 : Nat) (l0_2 : List (S57)) (a1 : Int) (r : Bool) (w : World) (hr0_0 : Kd.C (Kd.int .i64) w A0_0 l0_0.length l0_0) (hc0_0 : l0_0.length ≤ c0_0) (hr0_1 : Kd.C k47 w A0_1 l0_1.length l0_1) (hc0_1 : l0_1.length ≤ c0_1) (hr0_2 : Kd.C k57 w A0_2 l0_2.length l0_2) (hc0_2 : l0_2.length ≤ c0_2) (h : wishbookref10_isGood.f l0_0 l0_1 l0_2 a1 = some r) :
    Calls Tryd.prog 71 #[.agg #[.slice A0_0 l0_0.length c0_0, .slice A0_1 l0_1.length c0_1, .slice A0_2 l0_2.length c0_2], .int .i64 a1] w fun e w' => e = .returned (.bool r) ∧ Below w.heap.size w w' := by
  have hu26 := Tryd.underlying26
  have HR0_0 := Aside0.mk hr0_0
  have HC0_0 := Aside0.mk hc0_0
  clear hr0_0 hc0_0
  have HR0_1 := Aside0.mk hr0_1
  have HC0_1 := Aside0.mk hc0_1
  clear hr0_1 hc0_1
  have HR0_2 := Aside0.mk hr0_2
  have HC0_2 := Aside0.mk hc0_2
  clear hr0_2 hc0_2
  have HB := Aside0.mk (Below.refl w.heap.size w)
  have H : ((wishbookref00_Tween.f a1 0 (wrap64 ((l0_0.length : Int) - 1))).bind fun t105 => (some t105)) = some r := h
  clear h
  replace H := Option.bind_eq_some_iff.mp H
  obtain ⟨t105, A30, H⟩ := H
  replace H : (some t105) = some r := H
  have A3 := Aside0.mk A30
  clear A30
  obtain rfl := Option.some.inj H
  go_enter Tryd.func71, Tryd.ntmps71
  go_wp2_with (first | ((with_reducible refine gate_dst (N := 2) rfl ?_); refine box_event ?hg (N := 2) ?hd (cs := #[.slice A0_0 l0_0.length c0_0, .slice A0_1 l0_1.length c0_1, .slice A0_2 l0_2.length c0_2]) (t := 26) ?hr ?_; (case hd => rfl); (case hg => rfl); (case hr => first | (go_simp; done) | (go_simp; rfl)); intro gb104 hg w4 hbox hb; have n0_ := Aside0.mk (below_step (by repeat (first | (with_reducible first | exact HB.out | apply below_alloc | apply pw_below_drewN | apply below_drew1) | exact HB.out)) hb); have n1_ := Aside0.mk (hbox); have n2_ := Aside0.mk ((by rw [hg]; exact (below_size (by repeat (first | (with_reducible first | exact HB.out | apply below_alloc | apply pw_below_drewN | apply below_drew1) | exact HB.out))) : w.heap.size ≤ gb104)); have n3_ := Aside0.mk ((by rw [hg]; exact (below_size (by repeat (first | (with_reducible first | exact HB.out | apply below_alloc | apply pw_below_drewN | apply below_drew1) | exact HB.out))) : w.heap.size ≤ gb104)); clear HB; have HB := n0_; have BK104 := n1_; have GW104 := n2_; have GE104 := n3_; clear n0_ n1_ n2_ n3_; clear hb hbox hg; have hcz5_0 : w4.cell? ⟨gb104, 0, none⟩ = some (.slice A0_0 l0_0.length c0_0) := (blk_cell BK104.out 0).trans rfl; have hcz5_1 : w4.cell? ⟨gb104, 1, none⟩ = some (.slice A0_1 l0_1.length c0_1) := (blk_cell BK104.out 1).trans rfl; have hcz5_2 : w4.cell? ⟨gb104, 2, none⟩ = some (.slice A0_2 l0_2.length c0_2) := (blk_cell BK104.out 2).trans rfl; have hfz5_0 := blk_frozen BK104.out 0; have hfz5_1 := blk_frozen BK104.out 1; have hfz5_2 := blk_frozen BK104.out 2) | ((with_reducible refine gate_callee (f := 34) rfl ?_); refine goesL_ (some 10) rfl rfl Tryd.func34 (by kernel_rfl) rfl #[.int .i64 a1, .int .i64 0, .int .i64 (wrap64 ((l0_0.length : Int) - 1))] rfl (by (try simp only [List.map_toArray, List.map_cons, List.map_nil]); first | done | rfl | (simp only [List.length_drop, List.length_take]; rfl)) ?_; (with_reducible refine (wishbookref00_Tween.calls a1 0 (wrap64 ((l0_0.length : Int) - 1)) t105 _ A3.out).mono ?_); rintro e w' ⟨rfl, ⟨nd, rfl⟩⟩; refine ⟨_, rfl, ?_⟩))
  go_ret
  exact ⟨by first | rfl | (simp [errW_none, errW_some] <;> rfl) | (simp [*, errW_none, errW_some] <;> rfl), by repeat (first | (with_reducible first | exact HB.out | apply below_alloc | apply pw_below_drewN | apply below_drew1 | refine below_set ?_ GE104.out) | exact HB.out)⟩
def wishbookref00_With.f (l0 : List Int) (a1 : Int) : Option (List Int) := (some (([] : List Int) : List Int)).bind fun y106 => (if y106.length + l0.length < 17592186044416 then ((some (y106 ++ l0 : List Int)).bind fun y109 => (if y109.length < 17592186044416 then (some (y109 ++ [a1])) else (none))) else (none))
set_option maxHeartbeats 8000000 in
set_option maxRecDepth 100000 in
theorem wishbookref00_With.calls (A0 : Option Addr) (c0 : Nat) (l0 : List Int) (a1 : Int) (r : List Int) (w : World) (hr0 : Kd.C (Kd.int .i64) w A0 l0.length l0) (hc0 : l0.length ≤ c0) (h : wishbookref00_With.f l0 a1 = some r) :
    Calls Tryd.prog 36 #[.slice A0 l0.length c0, .int .i64 a1] w fun e w' => ∃ v0_ : Value, e = .returned (v0_) ∧ Kd.R (Kd.int .i64) 3 w' w.heap.size (fun _ => True) v0_ r ∧ Below w.heap.size w w' := by
  have HR0 := Aside0.mk hr0
  have HC0 := Aside0.mk hc0
  clear hr0 hc0
  have HB := Aside0.mk (Below.refl w.heap.size w)
  have H : ((some (([] : List Int) : List Int)).bind fun y106 => (if y106.length + l0.length < 17592186044416 then ((some (y106 ++ l0 : List Int)).bind fun y109 => (if y109.length < 17592186044416 then (some (y109 ++ [a1])) else (none))) else (none))) = some r := h
  clear h
  obtain ⟨y106, hy106⟩ : ∃ y_ : List Int, y_ = (([] : List Int)) := ⟨_, rfl⟩
  replace H : (if y106.length + l0.length < 17592186044416 then ((some (y106 ++ l0 : List Int)).bind fun y109 => (if y109.length < 17592186044416 then (some (y109 ++ [a1])) else (none))) else (none)) = some r := by first | (rw [hy106]; with_reducible exact H) | (have H2_ := (Option.bind_some _ _).symm.trans H; rw [hy106]; with_reducible exact H2_) | (have H2_ := (Option.bind_some _ _).symm.trans H; with_reducible exact H2_) | with_reducible exact H | (rw [hy106]; exact H) | exact H
  have Ny106 := Aside0.mk hy106
  clear hy106
  by_cases c3 : y106.length + l0.length < 17592186044416
  · rw [if_pos c3] at H
    have LMc3 := Aside0.mk c3
    clear c3
    obtain ⟨y109, hy109⟩ : ∃ y_ : List Int, y_ = (y106 ++ l0) := ⟨_, rfl⟩
    replace H : (if y109.length < 17592186044416 then (some (y109 ++ [a1])) else (none)) = some r := by first | (rw [hy109]; with_reducible exact H) | (have H2_ := (Option.bind_some _ _).symm.trans H; rw [hy109]; with_reducible exact H2_) | (have H2_ := (Option.bind_some _ _).symm.trans H; with_reducible exact H2_) | with_reducible exact H | (rw [hy109]; exact H) | exact H
    have Ny109 := Aside0.mk hy109
    clear hy109
    by_cases c4 : y109.length < 17592186044416
    · rw [if_pos c4] at H
      have LMc4 := Aside0.mk c4
      clear c4
      obtain ⟨y112, hy112⟩ : ∃ y_ : List Int, y_ = (y109 ++ [a1]) := ⟨_, rfl⟩
      replace H : (some y112) = some r := by first | (rw [hy112]; with_reducible exact H) | (have H2_ := (Option.bind_some _ _).symm.trans H; rw [hy112]; with_reducible exact H2_) | (have H2_ := (Option.bind_some _ _).symm.trans H; with_reducible exact H2_) | with_reducible exact H | (rw [hy112]; exact H) | exact H
      have Ny112 := Aside0.mk hy112
      clear hy112
      obtain rfl := Option.some.inj H
      go_enter Tryd.func36, Tryd.ntmps36
      go_wp2_with (first | ((with_reducible refine gate_dst (N := 5) rfl ?_); refine Kd.R_lit (Kd.int .i64) _ 3 ?hg (N := 5) ?hd (xs := ([] : List Int)) (inner := []) (ok := fun _ => True) (okp := fun _ => True) ?hr ?hp (fun _ hk => hk) trivial (Below.refl _ _) (Nat.le_refl _) (by simp) ?_; (case hd => rfl); (case hg => rfl); (case hr => first | (go_simp; done) | (go_simp; rfl)); (case hp => exact (Reps.none _ _)); intro v107 w5 ho6 hb hg_ hnew_; clear hg_ hnew_; (first | rw [← Ny106.out] at ho6 | (simp only [Int.reduceToNat] at ho6; rw [← Ny106.out] at ho6)); have n0_ := Aside0.mk (Kd.R_lower ho6 (below_size (by repeat (first | (with_reducible first | exact HB.out | apply below_alloc | apply pw_below_drewN | apply below_drew1) | exact HB.out)))); have n1_ := Aside0.mk (below_step (by repeat (first | (with_reducible first | exact HB.out | apply below_alloc | apply pw_below_drewN | apply below_drew1) | exact HB.out)) hb); clear HB; have HO108 := n0_; have HB := n1_; clear n0_ n1_; clear hb ho6) | ((with_reducible refine gate_builtin (b := .append) (xs := #[.tmp 5, .tmp 6]) rfl ?_); at_builtin; refine Kd.R_append_rows (Kd.int .i64) (w0 := w) w.heap.size rfl (.tmp 5) (.tmp 6) 22 3 (.int .i64 0) 8 rfl Tryd.underlying22 info3 rfl (by decide) (by omega) v107 y106 l0 _ _ _ (fun _ => True) (fun _ => False) rfl rfl ?aO ?aR (fun _ _ h => h) (fun _ h => h.elim) ?aF ?aB ?aS ?aL ?_; (case aR => repeat (first | exact (Kd.C_below HR0.out HB.out) | (with_reducible refine Kd.C_alloc ?_ _) | (with_reducible refine Kd.C_drewN ?_ _) | (with_reducible refine Kd.C_drew ?_))); (case aB => exact (by repeat (first | (with_reducible first | exact HB.out | apply below_alloc | apply pw_below_drewN | apply below_drew1) | exact HB.out))); (case aF => exact (fun _ _ => trivial)); (case aO => exact (by (with_reducible repeat (first | apply Kd.R_alloc | apply Kd.R_drewN | apply Kd.R_drew)); exact HO108.out)); (case aS => exact (below_size (by repeat (first | (with_reducible first | exact HB.out | apply below_alloc | apply pw_below_drewN | apply below_drew1) | exact HB.out)))); (case aL => have := LMc3.out; omega); intro v110 w7 ho hb hg hat; rw [← Ny109.out] at ho; have n0_ := Aside0.mk (hb); have n1_ := Aside0.mk (ho); clear HB; clear HO108; have HB := n0_; have HO111 := n1_; clear n0_ n1_; clear ho hb hg hat) | ((with_reducible refine gate_builtin (b := .append) (xs := #[.tmp 7, .tmp 9]) rfl ?_); at_builtin; refine Kd.R_append (Kd.int .i64) (w0 := w) w.heap.size rfl (.tmp 7) (.tmp 9) 22 3 (.int .i64 0) 8 rfl Tryd.underlying22 info3 rfl (by decide) (by omega) v110 y109 a1 [.int .i64 a1] (fun _ => True) (fun _ => False) rfl rfl ?aP (fun _ hk => hk.elim) ?aF ?aO ?aB ?aS ?aL ?_; (case aP => exact rfl); (case aB => exact (by repeat (first | (with_reducible first | exact HB.out | apply below_alloc | apply pw_below_drewN | apply below_drew1) | exact HB.out))); (case aF => exact (fun _ _ => trivial)); (case aO => exact (by (with_reducible repeat (first | apply Kd.R_alloc | apply Kd.R_drewN | apply Kd.R_drew)); exact HO111.out)); (case aS => exact (below_size (by repeat (first | (with_reducible first | exact HB.out | apply below_alloc | apply pw_below_drewN | apply below_drew1) | exact HB.out)))); (case aL => have := LMc4.out; omega); intro v113 w8 ho hb hg hat; rw [← Ny112.out] at ho; have n0_ := Aside0.mk (hb); have n1_ := Aside0.mk (ho); clear HB; clear HO111; have HB := n0_; have HO114 := n1_; clear n0_ n1_; clear ho hb hg hat))
      go_ret
      exact ⟨_, by first | rfl | (simp [errW_none, errW_some] <;> rfl) | (simp [*, errW_none, errW_some] <;> rfl), by (with_reducible repeat (first | apply Kd.R_alloc | apply Kd.R_drewN | apply Kd.R_drew)); exact HO114.out, by repeat (first | (with_reducible first | exact HB.out | apply below_alloc | apply pw_below_drewN | apply below_drew1) | exact HB.out)⟩
    · rw [if_neg c4] at H
      exact absurd H (by simp)
  · rw [if_neg c3] at H
    exact absurd H (by simp)
def wishbookref10_surely.l0 : Nat → Int → Int → Int → Int → List Int → List (S47) → List (S57) → Option (Int)
  | 0, _, _, _, _, _, _, _ => none
  | k + 1, x1, x2, x7, x8, x116000, x116001, x116002 => if x8 < (x116002.length : Int) then (if 0 ≤ x8 then (if ((rd_T57 x116002 x8).f0) = x1 then (if ((rd_T57 x116002 x8).f1.f1) ≤ x2 then (wishbookref10_surely.l0 k x1 x2 (wrap64 (x7 + ((rd_T57 x116002 x8).f2.f0))) (wrap64 (x8 + 1)) x116000 x116001 x116002) else (wishbookref10_surely.l0 k x1 x2 x7 (wrap64 (x8 + 1)) x116000 x116001 x116002)) else (wishbookref10_surely.l0 k x1 x2 x7 (wrap64 (x8 + 1)) x116000 x116001 x116002)) else (none)) else (some x7)
def wishbookref10_surely.f (k : Nat) (l0_0 : List Int) (l0_1 : List (S47)) (l0_2 : List (S57)) (a1 : Int) (a2 : Int) : Option (Int) := wishbookref10_surely.l0 k a1 a2 0 0 l0_0 l0_1 l0_2
theorem wishbookref10_surely.mono_l : ∀ k, (∀ y0 y1 y2 y3 y4 y5 y6, LeO (wishbookref10_surely.l0 k y0 y1 y2 y3 y4 y5 y6) (wishbookref10_surely.l0 (k + 1) y0 y1 y2 y3 y4 y5 y6))
  | 0 => fun _ _ _ _ _ _ _ r h => by simp [wishbookref10_surely.l0] at h
  | k + 1 => by
    have ih0 := wishbookref10_surely.mono_l k
    · intro y0 y1 y2 y3 y4 y5 y6
      unfold wishbookref10_surely.l0
      repeat' first
      | (with_reducible exact ih0 _ _ _ _ _ _ _)
      | (with_reducible exact LeO.refl _)
      | (with_reducible exact LeO.none _)
      | (with_reducible refine LeO.ite ?_ ?_)
      | (with_reducible refine LeO.bind ?_ (fun _ => ?_))
      | exact ih0 _ _ _ _ _ _ _
      | exact LeO.none _
      | refine LeO.ite ?_ ?_
      | refine LeO.bind ?_ (fun _ => ?_)
theorem wishbookref10_surely.mono : ∀ a0 a1 a2 a3 a4 k, LeO (wishbookref10_surely.f k a0 a1 a2 a3 a4) (wishbookref10_surely.f (k + 1) a0 a1 a2 a3 a4) := by
  intro a0 a1 a2 a3 a4 k
  have ih0 := wishbookref10_surely.mono_l k
  unfold wishbookref10_surely.f
  repeat' first
      | (with_reducible exact ih0 _ _ _ _ _ _ _)
      | (with_reducible exact LeO.refl _)
      | (with_reducible exact LeO.none _)
      | (with_reducible refine LeO.ite ?_ ?_)
      | (with_reducible refine LeO.bind ?_ (fun _ => ?_))
      | exact ih0 _ _ _ _ _ _ _
      | exact LeO.none _
      | refine LeO.ite ?_ ?_
      | refine LeO.bind ?_ (fun _ => ?_)
set_option maxHeartbeats 8000000 in
set_option maxRecDepth 100000 in
theorem wishbookref10_surely.calls (k : Nat) (A0_0 : Option Addr) (c0_0 : Nat) (l0_0 : List Int) (A0_1 : Option Addr) (c0_1 : Nat) (l0_1 : List (S47)) (A0_2 : Option Addr) (c0_2 : Nat) (l0_2 : List (S57)) (a1 : Int) (a2 : Int) (r : Int) (w : World) (hr0_0 : Kd.C (Kd.int .i64) w A0_0 l0_0.length l0_0) (hc0_0 : l0_0.length ≤ c0_0) (hr0_1 : Kd.C k47 w A0_1 l0_1.length l0_1) (hc0_1 : l0_1.length ≤ c0_1) (hr0_2 : Kd.C k57 w A0_2 l0_2.length l0_2) (hc0_2 : l0_2.length ≤ c0_2) (h : wishbookref10_surely.f k l0_0 l0_1 l0_2 a1 a2 = some r) :
    Calls Tryd.prog 76 #[.agg #[.slice A0_0 l0_0.length c0_0, .slice A0_1 l0_1.length c0_1, .slice A0_2 l0_2.length c0_2], .int .i64 a1, .int .i64 a2] w fun e w' => e = .returned (.int .i64 r) ∧ Below w.heap.size w w' := by
  have hu26 := Tryd.underlying26
  have hu57 := Tryd.underlying57
  have HR0_0 := Aside0.mk hr0_0
  have HC0_0 := Aside0.mk hc0_0
  clear hr0_0 hc0_0
  have HR0_1 := Aside0.mk hr0_1
  have HC0_1 := Aside0.mk hc0_1
  clear hr0_1 hc0_1
  have HR0_2 := Aside0.mk hr0_2
  have HC0_2 := Aside0.mk hc0_2
  clear hr0_2 hc0_2
  have HB := Aside0.mk (Below.refl w.heap.size w)
  have H : (wishbookref10_surely.l0 k a1 a2 0 0 l0_0 l0_1 l0_2) = some r := h
  clear h
  have H' := Aside0.mk H
  clear H
  go_enter Tryd.func76, Tryd.ntmps76
  go_wp2_with (first | ((with_reducible refine gate_dst (N := 3) rfl ?_); refine box_event ?hg (N := 3) ?hd (cs := #[.slice A0_0 l0_0.length c0_0, .slice A0_1 l0_1.length c0_1, .slice A0_2 l0_2.length c0_2]) (t := 26) ?hr ?_; (case hd => rfl); (case hg => rfl); (case hr => first | (go_simp; done) | (go_simp; rfl)); intro gb115 hg w4 hbox hb; have n0_ := Aside0.mk (below_step (by repeat (first | (with_reducible first | exact HB.out | apply below_alloc | apply pw_below_drewN | apply below_drew1) | exact HB.out)) hb); have n1_ := Aside0.mk (hbox); have n2_ := Aside0.mk ((by rw [hg]; exact (below_size (by repeat (first | (with_reducible first | exact HB.out | apply below_alloc | apply pw_below_drewN | apply below_drew1) | exact HB.out))) : w.heap.size ≤ gb115)); have n3_ := Aside0.mk ((by rw [hg]; exact (below_size (by repeat (first | (with_reducible first | exact HB.out | apply below_alloc | apply pw_below_drewN | apply below_drew1) | exact HB.out))) : w.heap.size ≤ gb115)); clear HB; have HB := n0_; have BK115 := n1_; have GW115 := n2_; have GE115 := n3_; clear n0_ n1_ n2_ n3_; clear hb hbox hg))
  go_loopg [7, 8] k (fun kq v7 v8 w' => ∃ (x7_1 : Int) (x8_1 : Int), v7 = .int .i64 x7_1 ∧ v8 = .int .i64 x8_1 ∧ Aside0 (wishbookref10_surely.l0 kq a1 a2 x7_1 x8_1 l0_0 l0_1 l0_2 = some r) ∧ Aside0 (kq ≤ k) ∧ Aside0 (w'.heap[gb115]? = some (.cells #[(.slice A0_0 l0_0.length c0_0), (.slice A0_1 l0_1.length c0_1), (.slice A0_2 l0_2.length c0_2)] 26 (0, 0))) ∧ Aside0 (Below w.heap.size w w'))
  case atStart => exact ⟨(0), (0), (by first | rfl | (simp; done) | (simp [*]; done)), (by first | rfl | (simp; done) | (simp [*]; done)), H', ⟨Nat.le_refl _⟩, ⟨by (with_reducible repeat (first | refine blk_drewN ?_ _ | refine blk_drew ?_ | refine blk_alloc ?_ _)); exact BK115.out⟩, ⟨by repeat (first | (with_reducible first | exact HB.out | apply below_alloc | apply pw_below_drewN | apply below_drew1 | refine below_set ?_ GE115.out) | exact HB.out)⟩⟩
  case round =>
    clear H'
    try clear p2
    obtain ⟨x7_1, x8_1, rfl, rfl, HA, HK1, BK115, HB⟩ := hrel
    cases gk with
    | zero => exact absurd HA.out (by simp [wishbookref10_surely.l0])
    | succ k1 =>
      have H := HA.out
      clear HA
      simp only [wishbookref10_surely.l0] at H
      by_cases c5 : x8_1 < (l0_2.length : Int)
      · rw [if_pos c5] at H
        have c5b0 : decide (x8_1 < (l0_2.length : Int)) = true := decide_eq_true c5
        clear c5
        by_cases c6 : 0 ≤ x8_1
        · rw [if_pos c6] at H
          have c6b0 : decide (0 ≤ x8_1) = true := decide_eq_true c6
          clear c6
          by_cases c7 : ((rd_T57 l0_2 x8_1).f0) = a1
          · rw [if_pos c7] at H
            have c7b0 : (((rd_T57 l0_2 x8_1).f0) == a1) = true := beq_iff_eq.mpr c7
            have c7b1 : (((rd_T57 l0_2 x8_1).f0) != a1) = false := bne_eq_false_iff_eq.mpr c7
            clear c7
            by_cases c8 : ((rd_T57 l0_2 x8_1).f1.f1) ≤ a2
            · rw [if_pos c8] at H
              have c8b0 : decide (((rd_T57 l0_2 x8_1).f1.f1) ≤ a2) = true := decide_eq_true c8
              clear c8
              have H' := Aside0.mk H
              clear H
              have hcz9_0 : wr.cell? ⟨gb115, 0, none⟩ = some (.slice A0_0 l0_0.length c0_0) := (blk_cell BK115.out 0).trans rfl
              have hcz9_1 : wr.cell? ⟨gb115, 1, none⟩ = some (.slice A0_1 l0_1.length c0_1) := (blk_cell BK115.out 1).trans rfl
              have hcz9_2 : wr.cell? ⟨gb115, 2, none⟩ = some (.slice A0_2 l0_2.length c0_2) := (blk_cell BK115.out 2).trans rfl
              have hfz9_0 := blk_frozen BK115.out 0
              have hfz9_1 := blk_frozen BK115.out 1
              have hfz9_2 := blk_frozen BK115.out 2
              have p116 : 0 ≤ (x8_1 : Int) := of_decide_eq_true (by first | (with_reducible assumption) | assumption)
              have q116 : x8_1 < (l0_2.length : Int) := of_decide_eq_true (by first | (with_reducible assumption) | assumption)
              obtain ⟨ad116, e116, hx116_0, hx116_1, hx116_2, hx116_3, hx116_4⟩ := at_T57 HR0_2.out x8_1 p116 q116
              cases e116
              replace hx116_0 := (HB.out.cell (World.block_lt_of_cell? w _ hx116_0)).trans hx116_0
              replace hx116_1 := (HB.out.cell (World.block_lt_of_cell? w _ hx116_1)).trans hx116_1
              replace hx116_2 := (HB.out.cell (World.block_lt_of_cell? w _ hx116_2)).trans hx116_2
              replace hx116_3 := (HB.out.cell (World.block_lt_of_cell? w _ hx116_3)).trans hx116_3
              replace hx116_4 := (HB.out.cell (World.block_lt_of_cell? w _ hx116_4)).trans hx116_4
              replace p116 := eq_true p116
              replace q116 := eq_true q116
              go_wp2_with (first | ((with_reducible refine gate_dst (N := 9) rfl ?_); refine box_event ?hg (N := 9) ?hd (cs := #[.int .i64 0, .int .i64 0, .int .i64 0, .int .i64 0, .int .i64 0]) (t := 57) ?hr ?_; (case hd => rfl); (case hg => rfl); (case hr => first | (go_simp; done) | (go_simp; rfl)); intro gb117 hg w10 hbox hb; have n0_ := Aside0.mk (blk_below (g := gb115) (o := .cells #[.slice A0_0 l0_0.length c0_0, .slice A0_1 l0_1.length c0_1, .slice (some ad116) l0_2.length c0_2] 26 (0, 0)) (by (with_reducible repeat (first | refine blk_drewN ?_ _ | refine blk_drew ?_ | refine blk_alloc ?_ _)); exact BK115.out) hb); have n1_ := Aside0.mk (below_step (by repeat (first | (with_reducible first | exact HB.out | apply below_alloc | apply pw_below_drewN | apply below_drew1 | refine below_set ?_ GE115.out) | exact HB.out)) hb); have n2_ := Aside0.mk (hbox); have n3_ := Aside0.mk ((by rw [hg]; exact (below_size (by repeat (first | (with_reducible first | exact HB.out | apply below_alloc | apply pw_below_drewN | apply below_drew1 | refine below_set ?_ GE115.out) | exact HB.out))) : w.heap.size ≤ gb117)); have n4_ := Aside0.mk ((by rw [hg]; exact (below_size (by repeat (first | (with_reducible first | exact HB.out | apply below_alloc | apply pw_below_drewN | apply below_drew1 | refine below_set ?_ GE115.out) | exact HB.out))) : w.heap.size ≤ gb117)); have n5_ := Aside0.mk ((by rw [hg]; exact Nat.ne_of_lt (blk_lt (g := gb115) (o := .cells #[.slice A0_0 l0_0.length c0_0, .slice A0_1 l0_1.length c0_1, .slice (some ad116) l0_2.length c0_2] 26 (0, 0)) (by (with_reducible repeat (first | refine blk_drewN ?_ _ | refine blk_drew ?_ | refine blk_alloc ?_ _)); exact BK115.out)) : gb115 ≠ gb117)); have n6_ := Aside0.mk ((by rw [hg]; exact Nat.ne_of_gt (blk_lt (g := gb115) (o := .cells #[.slice A0_0 l0_0.length c0_0, .slice A0_1 l0_1.length c0_1, .slice (some ad116) l0_2.length c0_2] 26 (0, 0)) (by (with_reducible repeat (first | refine blk_drewN ?_ _ | refine blk_drew ?_ | refine blk_alloc ?_ _)); exact BK115.out)) : gb117 ≠ gb115)); clear BK115; clear HB; have BK115 := n0_; have HB := n1_; have BK117 := n2_; have GW117 := n3_; have GE117 := n4_; have NB115_117 := n5_; have NB117_115 := n6_; clear n0_ n1_ n2_ n3_ n4_ n5_ n6_; clear hb hbox hg; have hnb11 := NB117_115.out; have hnc11 := NB115_117.out; have hcz12_0 : w10.cell? ⟨gb117, 0, none⟩ = some (.int .i64 0) := (blk_cell BK117.out 0).trans rfl; have hcz12_1 : w10.cell? ⟨gb117, 1, none⟩ = some (.int .i64 0) := (blk_cell BK117.out 1).trans rfl; have hcz12_2 : w10.cell? ⟨gb117, 2, none⟩ = some (.int .i64 0) := (blk_cell BK117.out 2).trans rfl; have hcz12_3 : w10.cell? ⟨gb117, 3, none⟩ = some (.int .i64 0) := (blk_cell BK117.out 3).trans rfl; have hcz12_4 : w10.cell? ⟨gb117, 4, none⟩ = some (.int .i64 0) := (blk_cell BK117.out 4).trans rfl; have hfz12_0 := blk_frozen BK117.out 0; have hfz12_1 := blk_frozen BK117.out 1; have hfz12_2 := blk_frozen BK117.out 2; have hfz12_3 := blk_frozen BK117.out 3; have hfz12_4 := blk_frozen BK117.out 4))
              go_roundg k1
              case measure => have := HK1.out; omega
              case rel => exact ⟨(wrap64 (x7_1 + ((rd_T57 l0_2 x8_1).f2.f0))), (wrap64 (x8_1 + 1)), (by first | rfl | (simp; done) | (simp [*]; done)), (by first | rfl | (simp; done) | (simp [*]; done)), H', ⟨by have := HK1.out; omega⟩, ⟨by (with_reducible repeat (first | refine blk_drewN ?_ _ | refine blk_drew ?_ | refine blk_alloc ?_ _)); refine blk_far ?_ NB115_117.out _; (with_reducible repeat (first | refine blk_drewN ?_ _ | refine blk_drew ?_ | refine blk_alloc ?_ _)); refine blk_far ?_ NB115_117.out _; (with_reducible repeat (first | refine blk_drewN ?_ _ | refine blk_drew ?_ | refine blk_alloc ?_ _)); refine blk_far ?_ NB115_117.out _; (with_reducible repeat (first | refine blk_drewN ?_ _ | refine blk_drew ?_ | refine blk_alloc ?_ _)); refine blk_far ?_ NB115_117.out _; (with_reducible repeat (first | refine blk_drewN ?_ _ | refine blk_drew ?_ | refine blk_alloc ?_ _)); refine blk_far ?_ NB115_117.out _; (with_reducible repeat (first | refine blk_drewN ?_ _ | refine blk_drew ?_ | refine blk_alloc ?_ _)); exact BK115.out⟩, ⟨by repeat (first | (with_reducible first | exact HB.out | apply below_alloc | apply pw_below_drewN | apply below_drew1 | refine below_set ?_ GE115.out | refine below_set ?_ GE117.out) | exact HB.out)⟩⟩
            · rw [if_neg c8] at H
              have c8b0 : decide (((rd_T57 l0_2 x8_1).f1.f1) ≤ a2) = false := decide_eq_false c8
              clear c8
              have H' := Aside0.mk H
              clear H
              have hcz13_0 : wr.cell? ⟨gb115, 0, none⟩ = some (.slice A0_0 l0_0.length c0_0) := (blk_cell BK115.out 0).trans rfl
              have hcz13_1 : wr.cell? ⟨gb115, 1, none⟩ = some (.slice A0_1 l0_1.length c0_1) := (blk_cell BK115.out 1).trans rfl
              have hcz13_2 : wr.cell? ⟨gb115, 2, none⟩ = some (.slice A0_2 l0_2.length c0_2) := (blk_cell BK115.out 2).trans rfl
              have hfz13_0 := blk_frozen BK115.out 0
              have hfz13_1 := blk_frozen BK115.out 1
              have hfz13_2 := blk_frozen BK115.out 2
              have p116 : 0 ≤ (x8_1 : Int) := of_decide_eq_true (by first | (with_reducible assumption) | assumption)
              have q116 : x8_1 < (l0_2.length : Int) := of_decide_eq_true (by first | (with_reducible assumption) | assumption)
              obtain ⟨ad116, e116, hx116_0, hx116_1, hx116_2, hx116_3, hx116_4⟩ := at_T57 HR0_2.out x8_1 p116 q116
              cases e116
              replace hx116_0 := (HB.out.cell (World.block_lt_of_cell? w _ hx116_0)).trans hx116_0
              replace hx116_1 := (HB.out.cell (World.block_lt_of_cell? w _ hx116_1)).trans hx116_1
              replace hx116_2 := (HB.out.cell (World.block_lt_of_cell? w _ hx116_2)).trans hx116_2
              replace hx116_3 := (HB.out.cell (World.block_lt_of_cell? w _ hx116_3)).trans hx116_3
              replace hx116_4 := (HB.out.cell (World.block_lt_of_cell? w _ hx116_4)).trans hx116_4
              replace p116 := eq_true p116
              replace q116 := eq_true q116
              go_wp2_with (first | ((with_reducible refine gate_dst (N := 9) rfl ?_); refine box_event ?hg (N := 9) ?hd (cs := #[.int .i64 0, .int .i64 0, .int .i64 0, .int .i64 0, .int .i64 0]) (t := 57) ?hr ?_; (case hd => rfl); (case hg => rfl); (case hr => first | (go_simp; done) | (go_simp; rfl)); intro gb117 hg w14 hbox hb; have n0_ := Aside0.mk (blk_below (g := gb115) (o := .cells #[.slice A0_0 l0_0.length c0_0, .slice A0_1 l0_1.length c0_1, .slice (some ad116) l0_2.length c0_2] 26 (0, 0)) (by (with_reducible repeat (first | refine blk_drewN ?_ _ | refine blk_drew ?_ | refine blk_alloc ?_ _)); exact BK115.out) hb); have n1_ := Aside0.mk (below_step (by repeat (first | (with_reducible first | exact HB.out | apply below_alloc | apply pw_below_drewN | apply below_drew1 | refine below_set ?_ GE115.out) | exact HB.out)) hb); have n2_ := Aside0.mk (hbox); have n3_ := Aside0.mk ((by rw [hg]; exact (below_size (by repeat (first | (with_reducible first | exact HB.out | apply below_alloc | apply pw_below_drewN | apply below_drew1 | refine below_set ?_ GE115.out) | exact HB.out))) : w.heap.size ≤ gb117)); have n4_ := Aside0.mk ((by rw [hg]; exact (below_size (by repeat (first | (with_reducible first | exact HB.out | apply below_alloc | apply pw_below_drewN | apply below_drew1 | refine below_set ?_ GE115.out) | exact HB.out))) : w.heap.size ≤ gb117)); have n5_ := Aside0.mk ((by rw [hg]; exact Nat.ne_of_lt (blk_lt (g := gb115) (o := .cells #[.slice A0_0 l0_0.length c0_0, .slice A0_1 l0_1.length c0_1, .slice (some ad116) l0_2.length c0_2] 26 (0, 0)) (by (with_reducible repeat (first | refine blk_drewN ?_ _ | refine blk_drew ?_ | refine blk_alloc ?_ _)); exact BK115.out)) : gb115 ≠ gb117)); have n6_ := Aside0.mk ((by rw [hg]; exact Nat.ne_of_gt (blk_lt (g := gb115) (o := .cells #[.slice A0_0 l0_0.length c0_0, .slice A0_1 l0_1.length c0_1, .slice (some ad116) l0_2.length c0_2] 26 (0, 0)) (by (with_reducible repeat (first | refine blk_drewN ?_ _ | refine blk_drew ?_ | refine blk_alloc ?_ _)); exact BK115.out)) : gb117 ≠ gb115)); clear BK115; clear HB; have BK115 := n0_; have HB := n1_; have BK117 := n2_; have GW117 := n3_; have GE117 := n4_; have NB115_117 := n5_; have NB117_115 := n6_; clear n0_ n1_ n2_ n3_ n4_ n5_ n6_; clear hb hbox hg; have hnb15 := NB117_115.out; have hnc15 := NB115_117.out; have hcz16_0 : w14.cell? ⟨gb117, 0, none⟩ = some (.int .i64 0) := (blk_cell BK117.out 0).trans rfl; have hcz16_1 : w14.cell? ⟨gb117, 1, none⟩ = some (.int .i64 0) := (blk_cell BK117.out 1).trans rfl; have hcz16_2 : w14.cell? ⟨gb117, 2, none⟩ = some (.int .i64 0) := (blk_cell BK117.out 2).trans rfl; have hcz16_3 : w14.cell? ⟨gb117, 3, none⟩ = some (.int .i64 0) := (blk_cell BK117.out 3).trans rfl; have hcz16_4 : w14.cell? ⟨gb117, 4, none⟩ = some (.int .i64 0) := (blk_cell BK117.out 4).trans rfl; have hfz16_0 := blk_frozen BK117.out 0; have hfz16_1 := blk_frozen BK117.out 1; have hfz16_2 := blk_frozen BK117.out 2; have hfz16_3 := blk_frozen BK117.out 3; have hfz16_4 := blk_frozen BK117.out 4))
              go_roundg k1
              case measure => have := HK1.out; omega
              case rel => exact ⟨(x7_1), (wrap64 (x8_1 + 1)), (by first | rfl | (simp; done) | (simp [*]; done)), (by first | rfl | (simp; done) | (simp [*]; done)), H', ⟨by have := HK1.out; omega⟩, ⟨by (with_reducible repeat (first | refine blk_drewN ?_ _ | refine blk_drew ?_ | refine blk_alloc ?_ _)); refine blk_far ?_ NB115_117.out _; (with_reducible repeat (first | refine blk_drewN ?_ _ | refine blk_drew ?_ | refine blk_alloc ?_ _)); refine blk_far ?_ NB115_117.out _; (with_reducible repeat (first | refine blk_drewN ?_ _ | refine blk_drew ?_ | refine blk_alloc ?_ _)); refine blk_far ?_ NB115_117.out _; (with_reducible repeat (first | refine blk_drewN ?_ _ | refine blk_drew ?_ | refine blk_alloc ?_ _)); refine blk_far ?_ NB115_117.out _; (with_reducible repeat (first | refine blk_drewN ?_ _ | refine blk_drew ?_ | refine blk_alloc ?_ _)); refine blk_far ?_ NB115_117.out _; (with_reducible repeat (first | refine blk_drewN ?_ _ | refine blk_drew ?_ | refine blk_alloc ?_ _)); exact BK115.out⟩, ⟨by repeat (first | (with_reducible first | exact HB.out | apply below_alloc | apply pw_below_drewN | apply below_drew1 | refine below_set ?_ GE115.out | refine below_set ?_ GE117.out) | exact HB.out)⟩⟩
          · rw [if_neg c7] at H
            have c7b0 : (((rd_T57 l0_2 x8_1).f0) == a1) = false := beq_eq_false_iff_ne.mpr c7
            have c7b1 : (((rd_T57 l0_2 x8_1).f0) != a1) = true := bne_iff_ne.mpr c7
            have H' := Aside0.mk H
            clear H
            have hcz17_0 : wr.cell? ⟨gb115, 0, none⟩ = some (.slice A0_0 l0_0.length c0_0) := (blk_cell BK115.out 0).trans rfl
            have hcz17_1 : wr.cell? ⟨gb115, 1, none⟩ = some (.slice A0_1 l0_1.length c0_1) := (blk_cell BK115.out 1).trans rfl
            have hcz17_2 : wr.cell? ⟨gb115, 2, none⟩ = some (.slice A0_2 l0_2.length c0_2) := (blk_cell BK115.out 2).trans rfl
            have hfz17_0 := blk_frozen BK115.out 0
            have hfz17_1 := blk_frozen BK115.out 1
            have hfz17_2 := blk_frozen BK115.out 2
            have p116 : 0 ≤ (x8_1 : Int) := of_decide_eq_true (by first | (with_reducible assumption) | assumption)
            have q116 : x8_1 < (l0_2.length : Int) := of_decide_eq_true (by first | (with_reducible assumption) | assumption)
            obtain ⟨ad116, e116, hx116_0, hx116_1, hx116_2, hx116_3, hx116_4⟩ := at_T57 HR0_2.out x8_1 p116 q116
            cases e116
            replace hx116_0 := (HB.out.cell (World.block_lt_of_cell? w _ hx116_0)).trans hx116_0
            replace hx116_1 := (HB.out.cell (World.block_lt_of_cell? w _ hx116_1)).trans hx116_1
            replace hx116_2 := (HB.out.cell (World.block_lt_of_cell? w _ hx116_2)).trans hx116_2
            replace hx116_3 := (HB.out.cell (World.block_lt_of_cell? w _ hx116_3)).trans hx116_3
            replace hx116_4 := (HB.out.cell (World.block_lt_of_cell? w _ hx116_4)).trans hx116_4
            replace p116 := eq_true p116
            replace q116 := eq_true q116
            go_wp2_with (first | ((with_reducible refine gate_dst (N := 9) rfl ?_); refine box_event ?hg (N := 9) ?hd (cs := #[.int .i64 0, .int .i64 0, .int .i64 0, .int .i64 0, .int .i64 0]) (t := 57) ?hr ?_; (case hd => rfl); (case hg => rfl); (case hr => first | (go_simp; done) | (go_simp; rfl)); intro gb117 hg w18 hbox hb; have n0_ := Aside0.mk (blk_below (g := gb115) (o := .cells #[.slice A0_0 l0_0.length c0_0, .slice A0_1 l0_1.length c0_1, .slice (some ad116) l0_2.length c0_2] 26 (0, 0)) (by (with_reducible repeat (first | refine blk_drewN ?_ _ | refine blk_drew ?_ | refine blk_alloc ?_ _)); exact BK115.out) hb); have n1_ := Aside0.mk (below_step (by repeat (first | (with_reducible first | exact HB.out | apply below_alloc | apply pw_below_drewN | apply below_drew1 | refine below_set ?_ GE115.out) | exact HB.out)) hb); have n2_ := Aside0.mk (hbox); have n3_ := Aside0.mk ((by rw [hg]; exact (below_size (by repeat (first | (with_reducible first | exact HB.out | apply below_alloc | apply pw_below_drewN | apply below_drew1 | refine below_set ?_ GE115.out) | exact HB.out))) : w.heap.size ≤ gb117)); have n4_ := Aside0.mk ((by rw [hg]; exact (below_size (by repeat (first | (with_reducible first | exact HB.out | apply below_alloc | apply pw_below_drewN | apply below_drew1 | refine below_set ?_ GE115.out) | exact HB.out))) : w.heap.size ≤ gb117)); have n5_ := Aside0.mk ((by rw [hg]; exact Nat.ne_of_lt (blk_lt (g := gb115) (o := .cells #[.slice A0_0 l0_0.length c0_0, .slice A0_1 l0_1.length c0_1, .slice (some ad116) l0_2.length c0_2] 26 (0, 0)) (by (with_reducible repeat (first | refine blk_drewN ?_ _ | refine blk_drew ?_ | refine blk_alloc ?_ _)); exact BK115.out)) : gb115 ≠ gb117)); have n6_ := Aside0.mk ((by rw [hg]; exact Nat.ne_of_gt (blk_lt (g := gb115) (o := .cells #[.slice A0_0 l0_0.length c0_0, .slice A0_1 l0_1.length c0_1, .slice (some ad116) l0_2.length c0_2] 26 (0, 0)) (by (with_reducible repeat (first | refine blk_drewN ?_ _ | refine blk_drew ?_ | refine blk_alloc ?_ _)); exact BK115.out)) : gb117 ≠ gb115)); clear BK115; clear HB; have BK115 := n0_; have HB := n1_; have BK117 := n2_; have GW117 := n3_; have GE117 := n4_; have NB115_117 := n5_; have NB117_115 := n6_; clear n0_ n1_ n2_ n3_ n4_ n5_ n6_; clear hb hbox hg; have hnb19 := NB117_115.out; have hnc19 := NB115_117.out; have hcz20_0 : w18.cell? ⟨gb117, 0, none⟩ = some (.int .i64 0) := (blk_cell BK117.out 0).trans rfl; have hcz20_1 : w18.cell? ⟨gb117, 1, none⟩ = some (.int .i64 0) := (blk_cell BK117.out 1).trans rfl; have hcz20_2 : w18.cell? ⟨gb117, 2, none⟩ = some (.int .i64 0) := (blk_cell BK117.out 2).trans rfl; have hcz20_3 : w18.cell? ⟨gb117, 3, none⟩ = some (.int .i64 0) := (blk_cell BK117.out 3).trans rfl; have hcz20_4 : w18.cell? ⟨gb117, 4, none⟩ = some (.int .i64 0) := (blk_cell BK117.out 4).trans rfl; have hfz20_0 := blk_frozen BK117.out 0; have hfz20_1 := blk_frozen BK117.out 1; have hfz20_2 := blk_frozen BK117.out 2; have hfz20_3 := blk_frozen BK117.out 3; have hfz20_4 := blk_frozen BK117.out 4))
            go_roundg k1
            case measure => have := HK1.out; omega
            case rel => exact ⟨(x7_1), (wrap64 (x8_1 + 1)), (by first | rfl | (simp; done) | (simp [*]; done)), (by first | rfl | (simp; done) | (simp [*]; done)), H', ⟨by have := HK1.out; omega⟩, ⟨by (with_reducible repeat (first | refine blk_drewN ?_ _ | refine blk_drew ?_ | refine blk_alloc ?_ _)); refine blk_far ?_ NB115_117.out _; (with_reducible repeat (first | refine blk_drewN ?_ _ | refine blk_drew ?_ | refine blk_alloc ?_ _)); refine blk_far ?_ NB115_117.out _; (with_reducible repeat (first | refine blk_drewN ?_ _ | refine blk_drew ?_ | refine blk_alloc ?_ _)); refine blk_far ?_ NB115_117.out _; (with_reducible repeat (first | refine blk_drewN ?_ _ | refine blk_drew ?_ | refine blk_alloc ?_ _)); refine blk_far ?_ NB115_117.out _; (with_reducible repeat (first | refine blk_drewN ?_ _ | refine blk_drew ?_ | refine blk_alloc ?_ _)); refine blk_far ?_ NB115_117.out _; (with_reducible repeat (first | refine blk_drewN ?_ _ | refine blk_drew ?_ | refine blk_alloc ?_ _)); exact BK115.out⟩, ⟨by repeat (first | (with_reducible first | exact HB.out | apply below_alloc | apply pw_below_drewN | apply below_drew1 | refine below_set ?_ GE115.out | refine below_set ?_ GE117.out) | exact HB.out)⟩⟩
        · rw [if_neg c6] at H
          exact absurd H (by simp)
      · rw [if_neg c5] at H
        have c5b0 : decide (x8_1 < (l0_2.length : Int)) = false := decide_eq_false c5
        clear c5
        obtain rfl := Option.some.inj H
        have hcz21_0 : wr.cell? ⟨gb115, 0, none⟩ = some (.slice A0_0 l0_0.length c0_0) := (blk_cell BK115.out 0).trans rfl
        have hcz21_1 : wr.cell? ⟨gb115, 1, none⟩ = some (.slice A0_1 l0_1.length c0_1) := (blk_cell BK115.out 1).trans rfl
        have hcz21_2 : wr.cell? ⟨gb115, 2, none⟩ = some (.slice A0_2 l0_2.length c0_2) := (blk_cell BK115.out 2).trans rfl
        have hfz21_0 := blk_frozen BK115.out 0
        have hfz21_1 := blk_frozen BK115.out 1
        have hfz21_2 := blk_frozen BK115.out 2
        go_wp2
        go_ret
        exact ⟨by first | rfl | (simp [errW_none, errW_some] <;> rfl) | (simp [*, errW_none, errW_some] <;> rfl), by repeat (first | (with_reducible first | exact HB.out | apply below_alloc | apply pw_below_drewN | apply below_drew1 | refine below_set ?_ GE115.out) | exact HB.out)⟩
mutual
def wishbookref10_kept.l0 : Nat → Int → List Int → Int → List Int → List (S47) → List (S57) → Option (Bool)
  | 0, _, _, _, _, _, _ => none
  | k + 1, x1, x2, x7, x119000, x119001, x119002 => if x7 ≤ 100 then (wishbookref10_kept.l1 k x1 x2 x7 0 0 x119000 x119001 x119002) else (some true)
def wishbookref10_kept.l1 : Nat → Int → List Int → Int → Int → Int → List Int → List (S47) → List (S57) → Option (Bool)
  | 0, _, _, _, _, _, _, _, _ => none
  | k + 1, x1, x2, x7, x8, x9, x119000, x119001, x119002 => if x9 < (x2.length : Int) then (if 0 ≤ x9 then (if x9 < (x119001.length : Int) then (if ((rd_T47 x119001 x9).f1) = x1 then (if ((rd_T47 x119001 x9).f3) ≤ x7 then (wishbookref10_kept.l1 k x1 x2 x7 (wrap64 (x8 + (rd x2 x9))) (wrap64 (x9 + 1)) x119000 x119001 x119002) else (wishbookref10_kept.l1 k x1 x2 x7 x8 (wrap64 (x9 + 1)) x119000 x119001 x119002)) else (wishbookref10_kept.l1 k x1 x2 x7 x8 (wrap64 (x9 + 1)) x119000 x119001 x119002)) else (none)) else (none)) else ((wishbookref10_surely.f k x119000 x119001 x119002 x1 x7).bind fun t122 => (if x8 > t122 then (some false) else (wishbookref10_kept.l0 k x1 x2 (wrap64 (x7 + 1)) x119000 x119001 x119002)))
end
def wishbookref10_kept.f (k : Nat) (l0_0 : List Int) (l0_1 : List (S47)) (l0_2 : List (S57)) (a1 : Int) (l2 : List Int) : Option (Bool) := wishbookref10_kept.l0 k a1 l2 0 l0_0 l0_1 l0_2
theorem wishbookref10_kept.mono_l : ∀ k, (∀ y0 y1 y2 y3 y4 y5, LeO (wishbookref10_kept.l0 k y0 y1 y2 y3 y4 y5) (wishbookref10_kept.l0 (k + 1) y0 y1 y2 y3 y4 y5)) ∧ (∀ y0 y1 y2 y3 y4 y5 y6 y7, LeO (wishbookref10_kept.l1 k y0 y1 y2 y3 y4 y5 y6 y7) (wishbookref10_kept.l1 (k + 1) y0 y1 y2 y3 y4 y5 y6 y7))
  | 0 => ⟨fun _ _ _ _ _ _ r h => by simp [wishbookref10_kept.l0] at h, fun _ _ _ _ _ _ _ _ r h => by simp [wishbookref10_kept.l1] at h⟩
  | k + 1 => by
    obtain ⟨ih0, ih1⟩ := wishbookref10_kept.mono_l k
    refine ⟨?_, ?_⟩
    · intro y0 y1 y2 y3 y4 y5
      unfold wishbookref10_kept.l0
      repeat' first
      | (with_reducible exact ih0 _ _ _ _ _ _)
      | (with_reducible exact ih1 _ _ _ _ _ _ _ _)
      | (with_reducible exact wishbookref10_surely.mono _ _ _ _ _ _)
      | (with_reducible exact LeO.refl _)
      | (with_reducible exact LeO.none _)
      | (with_reducible refine LeO.ite ?_ ?_)
      | (with_reducible refine LeO.bind ?_ (fun _ => ?_))
      | exact ih0 _ _ _ _ _ _
      | exact ih1 _ _ _ _ _ _ _ _
      | exact wishbookref10_surely.mono _ _ _ _ _ _
      | exact LeO.none _
      | refine LeO.ite ?_ ?_
      | refine LeO.bind ?_ (fun _ => ?_)
    · intro y0 y1 y2 y3 y4 y5 y6 y7
      unfold wishbookref10_kept.l1
      repeat' first
      | (with_reducible exact ih0 _ _ _ _ _ _)
      | (with_reducible exact ih1 _ _ _ _ _ _ _ _)
      | (with_reducible exact wishbookref10_surely.mono _ _ _ _ _ _)
      | (with_reducible exact LeO.refl _)
      | (with_reducible exact LeO.none _)
      | (with_reducible refine LeO.ite ?_ ?_)
      | (with_reducible refine LeO.bind ?_ (fun _ => ?_))
      | exact ih0 _ _ _ _ _ _
      | exact ih1 _ _ _ _ _ _ _ _
      | exact wishbookref10_surely.mono _ _ _ _ _ _
      | exact LeO.none _
      | refine LeO.ite ?_ ?_
      | refine LeO.bind ?_ (fun _ => ?_)
theorem wishbookref10_kept.mono : ∀ a0 a1 a2 a3 a4 k, LeO (wishbookref10_kept.f k a0 a1 a2 a3 a4) (wishbookref10_kept.f (k + 1) a0 a1 a2 a3 a4) := by
  intro a0 a1 a2 a3 a4 k
  obtain ⟨ih0, ih1⟩ := wishbookref10_kept.mono_l k
  unfold wishbookref10_kept.f
  repeat' first
      | (with_reducible exact ih0 _ _ _ _ _ _)
      | (with_reducible exact ih1 _ _ _ _ _ _ _ _)
      | (with_reducible exact wishbookref10_surely.mono _ _ _ _ _ _)
      | (with_reducible exact LeO.refl _)
      | (with_reducible exact LeO.none _)
      | (with_reducible refine LeO.ite ?_ ?_)
      | (with_reducible refine LeO.bind ?_ (fun _ => ?_))
      | exact ih0 _ _ _ _ _ _
      | exact ih1 _ _ _ _ _ _ _ _
      | exact wishbookref10_surely.mono _ _ _ _ _ _
      | exact LeO.none _
      | refine LeO.ite ?_ ?_
      | refine LeO.bind ?_ (fun _ => ?_)
set_option maxHeartbeats 8000000 in
set_option maxRecDepth 100000 in
theorem wishbookref10_kept.calls (k : Nat) (A0_0 : Option Addr) (c0_0 : Nat) (l0_0 : List Int) (A0_1 : Option Addr) (c0_1 : Nat) (l0_1 : List (S47)) (A0_2 : Option Addr) (c0_2 : Nat) (l0_2 : List (S57)) (a1 : Int) (A2 : Option Addr) (c2 : Nat) (l2 : List Int) (r : Bool) (w : World) (hr0_0 : Kd.C (Kd.int .i64) w A0_0 l0_0.length l0_0) (hc0_0 : l0_0.length ≤ c0_0) (hr0_1 : Kd.C k47 w A0_1 l0_1.length l0_1) (hc0_1 : l0_1.length ≤ c0_1) (hr0_2 : Kd.C k57 w A0_2 l0_2.length l0_2) (hc0_2 : l0_2.length ≤ c0_2) (hr2 : Kd.C (Kd.int .i64) w A2 l2.length l2) (hc2 : l2.length ≤ c2) (h : wishbookref10_kept.f k l0_0 l0_1 l0_2 a1 l2 = some r) :
    Calls Tryd.prog 63 #[.agg #[.slice A0_0 l0_0.length c0_0, .slice A0_1 l0_1.length c0_1, .slice A0_2 l0_2.length c0_2], .int .i64 a1, .slice A2 l2.length c2] w fun e w' => e = .returned (.bool r) ∧ Below w.heap.size w w' := by
  have hu26 := Tryd.underlying26
  have HR0_0 := Aside0.mk hr0_0
  have HC0_0 := Aside0.mk hc0_0
  clear hr0_0 hc0_0
  have HR0_1 := Aside0.mk hr0_1
  have HC0_1 := Aside0.mk hc0_1
  clear hr0_1 hc0_1
  have HR0_2 := Aside0.mk hr0_2
  have HC0_2 := Aside0.mk hc0_2
  clear hr0_2 hc0_2
  have HR2 := Aside0.mk hr2
  have HC2 := Aside0.mk hc2
  clear hr2 hc2
  have HB := Aside0.mk (Below.refl w.heap.size w)
  have H : (wishbookref10_kept.l0 k a1 l2 0 l0_0 l0_1 l0_2) = some r := h
  clear h
  have H' := Aside0.mk H
  clear H
  go_enter Tryd.func63, Tryd.ntmps63
  go_wp2_with (first | ((with_reducible refine gate_dst (N := 3) rfl ?_); refine box_event ?hg (N := 3) ?hd (cs := #[.slice A0_0 l0_0.length c0_0, .slice A0_1 l0_1.length c0_1, .slice A0_2 l0_2.length c0_2]) (t := 26) ?hr ?_; (case hd => rfl); (case hg => rfl); (case hr => first | (go_simp; done) | (go_simp; rfl)); intro gb118 hg w4 hbox hb; have n0_ := Aside0.mk (below_step (by repeat (first | (with_reducible first | exact HB.out | apply below_alloc | apply pw_below_drewN | apply below_drew1) | exact HB.out)) hb); have n1_ := Aside0.mk (hbox); have n2_ := Aside0.mk ((by rw [hg]; exact (below_size (by repeat (first | (with_reducible first | exact HB.out | apply below_alloc | apply pw_below_drewN | apply below_drew1) | exact HB.out))) : w.heap.size ≤ gb118)); have n3_ := Aside0.mk ((by rw [hg]; exact (below_size (by repeat (first | (with_reducible first | exact HB.out | apply below_alloc | apply pw_below_drewN | apply below_drew1) | exact HB.out))) : w.heap.size ≤ gb118)); clear HB; have HB := n0_; have BK118 := n1_; have GW118 := n2_; have GE118 := n3_; clear n0_ n1_ n2_ n3_; clear hb hbox hg))
  go_loopg [7] k (fun kq v7 w' => ∃ (x7_1 : Int), v7 = .int .i64 x7_1 ∧ Aside0 (wishbookref10_kept.l0 kq a1 l2 x7_1 l0_0 l0_1 l0_2 = some r) ∧ Aside0 (kq ≤ k) ∧ Aside0 (w'.heap[gb118]? = some (.cells #[(.slice A0_0 l0_0.length c0_0), (.slice A0_1 l0_1.length c0_1), (.slice A0_2 l0_2.length c0_2)] 26 (0, 0))) ∧ Aside0 (Below w.heap.size w w'))
  case atStart => exact ⟨(0), (by first | rfl | (simp; done) | (simp [*]; done)), H', ⟨Nat.le_refl _⟩, ⟨by (with_reducible repeat (first | refine blk_drewN ?_ _ | refine blk_drew ?_ | refine blk_alloc ?_ _)); exact BK118.out⟩, ⟨by repeat (first | (with_reducible first | exact HB.out | apply below_alloc | apply pw_below_drewN | apply below_drew1 | refine below_set ?_ GE118.out) | exact HB.out)⟩⟩
  case round =>
    clear H'
    try clear c2
    try clear p2
    obtain ⟨x7_1, rfl, HA, HK1, BK118, HB⟩ := hrel
    cases gk with
    | zero => exact absurd HA.out (by simp [wishbookref10_kept.l0])
    | succ k1 =>
      have H := HA.out
      clear HA
      simp only [wishbookref10_kept.l0] at H
      by_cases c5 : x7_1 ≤ 100
      · rw [if_pos c5] at H
        have c5b0 : decide (x7_1 ≤ 100) = true := decide_eq_true c5
        clear c5
        have H' := Aside0.mk H
        clear H
        go_wp2
        go_loopg [8, 9] k1 (fun kq v8 v9 w' => ∃ (x8_2 : Int) (x9_2 : Int), v8 = .int .i64 x8_2 ∧ v9 = .int .i64 x9_2 ∧ Aside0 (wishbookref10_kept.l1 kq a1 l2 x7_1 x8_2 x9_2 l0_0 l0_1 l0_2 = some r) ∧ Aside0 (kq ≤ k1) ∧ Aside0 (w'.heap[gb118]? = some (.cells #[(.slice A0_0 l0_0.length c0_0), (.slice A0_1 l0_1.length c0_1), (.slice A0_2 l0_2.length c0_2)] 26 (0, 0))) ∧ Aside0 (Below w.heap.size w w'))
        case atStart => exact ⟨(0), (0), (by first | rfl | (simp; done) | (simp [*]; done)), (by first | rfl | (simp; done) | (simp [*]; done)), H', ⟨Nat.le_refl _⟩, ⟨by (with_reducible repeat (first | refine blk_drewN ?_ _ | refine blk_drew ?_ | refine blk_alloc ?_ _)); exact BK118.out⟩, ⟨by repeat (first | (with_reducible first | exact HB.out | apply below_alloc | apply pw_below_drewN | apply below_drew1 | refine below_set ?_ GE118.out) | exact HB.out)⟩⟩
        case round =>
          clear H'
          try clear c2
          try clear p2
          try clear c5
          try clear c5b0
          try clear p2
          obtain ⟨x8_2, x9_2, rfl, rfl, HA, HK2, BK118, HB⟩ := hrel
          cases gk with
          | zero => exact absurd HA.out (by simp [wishbookref10_kept.l1])
          | succ k2 =>
            have H := HA.out
            clear HA
            simp only [wishbookref10_kept.l1] at H
            by_cases c6 : x9_2 < (l2.length : Int)
            · rw [if_pos c6] at H
              have c6b0 : decide (x9_2 < (l2.length : Int)) = true := decide_eq_true c6
              clear c6
              by_cases c7 : 0 ≤ x9_2
              · rw [if_pos c7] at H
                have c7b0 : decide (0 ≤ x9_2) = true := decide_eq_true c7
                clear c7
                by_cases c8 : x9_2 < (l0_1.length : Int)
                · rw [if_pos c8] at H
                  have c8b0 : decide (x9_2 < (l0_1.length : Int)) = true := decide_eq_true c8
                  clear c8
                  by_cases c9 : ((rd_T47 l0_1 x9_2).f1) = a1
                  · rw [if_pos c9] at H
                    have c9b0 : (((rd_T47 l0_1 x9_2).f1) == a1) = true := beq_iff_eq.mpr c9
                    have c9b1 : (((rd_T47 l0_1 x9_2).f1) != a1) = false := bne_eq_false_iff_eq.mpr c9
                    clear c9
                    by_cases c10 : ((rd_T47 l0_1 x9_2).f3) ≤ x7_1
                    · rw [if_pos c10] at H
                      have c10b0 : decide (((rd_T47 l0_1 x9_2).f3) ≤ x7_1) = true := decide_eq_true c10
                      clear c10
                      have H' := Aside0.mk H
                      clear H
                      have hcz11_0 : wr.cell? ⟨gb118, 0, none⟩ = some (.slice A0_0 l0_0.length c0_0) := (blk_cell BK118.out 0).trans rfl
                      have hcz11_1 : wr.cell? ⟨gb118, 1, none⟩ = some (.slice A0_1 l0_1.length c0_1) := (blk_cell BK118.out 1).trans rfl
                      have hcz11_2 : wr.cell? ⟨gb118, 2, none⟩ = some (.slice A0_2 l0_2.length c0_2) := (blk_cell BK118.out 2).trans rfl
                      have hfz11_0 := blk_frozen BK118.out 0
                      have hfz11_1 := blk_frozen BK118.out 1
                      have hfz11_2 := blk_frozen BK118.out 2
                      have p119 : 0 ≤ (x9_2 : Int) := of_decide_eq_true (by first | (with_reducible assumption) | assumption)
                      have q119 : x9_2 < (l0_1.length : Int) := of_decide_eq_true (by first | (with_reducible assumption) | assumption)
                      obtain ⟨ad119, e119, hx119_0, hx119_1, hx119_2, hx119_3, hx119_4⟩ := at_T47 HR0_1.out x9_2 p119 q119
                      cases e119
                      replace hx119_0 := (HB.out.cell (World.block_lt_of_cell? w _ hx119_0)).trans hx119_0
                      replace hx119_1 := (HB.out.cell (World.block_lt_of_cell? w _ hx119_1)).trans hx119_1
                      replace hx119_2 := (HB.out.cell (World.block_lt_of_cell? w _ hx119_2)).trans hx119_2
                      replace hx119_3 := (HB.out.cell (World.block_lt_of_cell? w _ hx119_3)).trans hx119_3
                      replace hx119_4 := (HB.out.cell (World.block_lt_of_cell? w _ hx119_4)).trans hx119_4
                      replace p119 := eq_true p119
                      replace q119 := eq_true q119
                      have p120 : 0 ≤ (x9_2 : Int) := of_decide_eq_true (by first | (with_reducible assumption) | assumption)
                      have q120 : x9_2 < (l0_1.length : Int) := of_decide_eq_true (by first | (with_reducible assumption) | assumption)
                      obtain ⟨ad120, e120, hx120_0, hx120_1, hx120_2, hx120_3, hx120_4⟩ := at_T47 HR0_1.out x9_2 p120 q120
                      obtain rfl : ad119 = ad120 := (by injection e120)
                      replace hx120_0 := (HB.out.cell (World.block_lt_of_cell? w _ hx120_0)).trans hx120_0
                      replace hx120_1 := (HB.out.cell (World.block_lt_of_cell? w _ hx120_1)).trans hx120_1
                      replace hx120_2 := (HB.out.cell (World.block_lt_of_cell? w _ hx120_2)).trans hx120_2
                      replace hx120_3 := (HB.out.cell (World.block_lt_of_cell? w _ hx120_3)).trans hx120_3
                      replace hx120_4 := (HB.out.cell (World.block_lt_of_cell? w _ hx120_4)).trans hx120_4
                      replace p120 := eq_true p120
                      replace q120 := eq_true q120
                      have p121 : 0 ≤ (x9_2 : Int) := of_decide_eq_true (by first | (with_reducible assumption) | assumption)
                      have q121 : x9_2 < (l2.length : Int) := of_decide_eq_true (by first | (with_reducible assumption) | assumption)
                      obtain ⟨ad121, e121, hx121_0⟩ := Kd.at_int HR2.out x9_2 p121 q121
                      cases e121
                      replace hx121_0 := (HB.out.cell (World.block_lt_of_cell? w _ hx121_0)).trans hx121_0
                      replace p121 := eq_true p121
                      replace q121 := eq_true q121
                      go_wp2
                      go_roundg k2
                      case measure => have := HK1.out; have := HK2.out; omega
                      case rel => exact ⟨(wrap64 (x8_2 + (rd l2 x9_2))), (wrap64 (x9_2 + 1)), (by first | rfl | (simp; done) | (simp [*]; done)), (by first | rfl | (simp; done) | (simp [*]; done)), H', ⟨by have := HK1.out; have := HK2.out; omega⟩, ⟨by (with_reducible repeat (first | refine blk_drewN ?_ _ | refine blk_drew ?_ | refine blk_alloc ?_ _)); exact BK118.out⟩, ⟨by repeat (first | (with_reducible first | exact HB.out | apply below_alloc | apply pw_below_drewN | apply below_drew1 | refine below_set ?_ GE118.out) | exact HB.out)⟩⟩
                    · rw [if_neg c10] at H
                      have c10b0 : decide (((rd_T47 l0_1 x9_2).f3) ≤ x7_1) = false := decide_eq_false c10
                      clear c10
                      have H' := Aside0.mk H
                      clear H
                      have hcz12_0 : wr.cell? ⟨gb118, 0, none⟩ = some (.slice A0_0 l0_0.length c0_0) := (blk_cell BK118.out 0).trans rfl
                      have hcz12_1 : wr.cell? ⟨gb118, 1, none⟩ = some (.slice A0_1 l0_1.length c0_1) := (blk_cell BK118.out 1).trans rfl
                      have hcz12_2 : wr.cell? ⟨gb118, 2, none⟩ = some (.slice A0_2 l0_2.length c0_2) := (blk_cell BK118.out 2).trans rfl
                      have hfz12_0 := blk_frozen BK118.out 0
                      have hfz12_1 := blk_frozen BK118.out 1
                      have hfz12_2 := blk_frozen BK118.out 2
                      have p119 : 0 ≤ (x9_2 : Int) := of_decide_eq_true (by first | (with_reducible assumption) | assumption)
                      have q119 : x9_2 < (l0_1.length : Int) := of_decide_eq_true (by first | (with_reducible assumption) | assumption)
                      obtain ⟨ad119, e119, hx119_0, hx119_1, hx119_2, hx119_3, hx119_4⟩ := at_T47 HR0_1.out x9_2 p119 q119
                      cases e119
                      replace hx119_0 := (HB.out.cell (World.block_lt_of_cell? w _ hx119_0)).trans hx119_0
                      replace hx119_1 := (HB.out.cell (World.block_lt_of_cell? w _ hx119_1)).trans hx119_1
                      replace hx119_2 := (HB.out.cell (World.block_lt_of_cell? w _ hx119_2)).trans hx119_2
                      replace hx119_3 := (HB.out.cell (World.block_lt_of_cell? w _ hx119_3)).trans hx119_3
                      replace hx119_4 := (HB.out.cell (World.block_lt_of_cell? w _ hx119_4)).trans hx119_4
                      replace p119 := eq_true p119
                      replace q119 := eq_true q119
                      have p120 : 0 ≤ (x9_2 : Int) := of_decide_eq_true (by first | (with_reducible assumption) | assumption)
                      have q120 : x9_2 < (l0_1.length : Int) := of_decide_eq_true (by first | (with_reducible assumption) | assumption)
                      obtain ⟨ad120, e120, hx120_0, hx120_1, hx120_2, hx120_3, hx120_4⟩ := at_T47 HR0_1.out x9_2 p120 q120
                      obtain rfl : ad119 = ad120 := (by injection e120)
                      replace hx120_0 := (HB.out.cell (World.block_lt_of_cell? w _ hx120_0)).trans hx120_0
                      replace hx120_1 := (HB.out.cell (World.block_lt_of_cell? w _ hx120_1)).trans hx120_1
                      replace hx120_2 := (HB.out.cell (World.block_lt_of_cell? w _ hx120_2)).trans hx120_2
                      replace hx120_3 := (HB.out.cell (World.block_lt_of_cell? w _ hx120_3)).trans hx120_3
                      replace hx120_4 := (HB.out.cell (World.block_lt_of_cell? w _ hx120_4)).trans hx120_4
                      replace p120 := eq_true p120
                      replace q120 := eq_true q120
                      go_wp2
                      go_roundg k2
                      case measure => have := HK1.out; have := HK2.out; omega
                      case rel => exact ⟨(x8_2), (wrap64 (x9_2 + 1)), (by first | rfl | (simp; done) | (simp [*]; done)), (by first | rfl | (simp; done) | (simp [*]; done)), H', ⟨by have := HK1.out; have := HK2.out; omega⟩, ⟨by (with_reducible repeat (first | refine blk_drewN ?_ _ | refine blk_drew ?_ | refine blk_alloc ?_ _)); exact BK118.out⟩, ⟨by repeat (first | (with_reducible first | exact HB.out | apply below_alloc | apply pw_below_drewN | apply below_drew1 | refine below_set ?_ GE118.out) | exact HB.out)⟩⟩
                  · rw [if_neg c9] at H
                    have c9b0 : (((rd_T47 l0_1 x9_2).f1) == a1) = false := beq_eq_false_iff_ne.mpr c9
                    have c9b1 : (((rd_T47 l0_1 x9_2).f1) != a1) = true := bne_iff_ne.mpr c9
                    have H' := Aside0.mk H
                    clear H
                    have hcz13_0 : wr.cell? ⟨gb118, 0, none⟩ = some (.slice A0_0 l0_0.length c0_0) := (blk_cell BK118.out 0).trans rfl
                    have hcz13_1 : wr.cell? ⟨gb118, 1, none⟩ = some (.slice A0_1 l0_1.length c0_1) := (blk_cell BK118.out 1).trans rfl
                    have hcz13_2 : wr.cell? ⟨gb118, 2, none⟩ = some (.slice A0_2 l0_2.length c0_2) := (blk_cell BK118.out 2).trans rfl
                    have hfz13_0 := blk_frozen BK118.out 0
                    have hfz13_1 := blk_frozen BK118.out 1
                    have hfz13_2 := blk_frozen BK118.out 2
                    have p119 : 0 ≤ (x9_2 : Int) := of_decide_eq_true (by first | (with_reducible assumption) | assumption)
                    have q119 : x9_2 < (l0_1.length : Int) := of_decide_eq_true (by first | (with_reducible assumption) | assumption)
                    obtain ⟨ad119, e119, hx119_0, hx119_1, hx119_2, hx119_3, hx119_4⟩ := at_T47 HR0_1.out x9_2 p119 q119
                    cases e119
                    replace hx119_0 := (HB.out.cell (World.block_lt_of_cell? w _ hx119_0)).trans hx119_0
                    replace hx119_1 := (HB.out.cell (World.block_lt_of_cell? w _ hx119_1)).trans hx119_1
                    replace hx119_2 := (HB.out.cell (World.block_lt_of_cell? w _ hx119_2)).trans hx119_2
                    replace hx119_3 := (HB.out.cell (World.block_lt_of_cell? w _ hx119_3)).trans hx119_3
                    replace hx119_4 := (HB.out.cell (World.block_lt_of_cell? w _ hx119_4)).trans hx119_4
                    replace p119 := eq_true p119
                    replace q119 := eq_true q119
                    go_wp2
                    go_roundg k2
                    case measure => have := HK1.out; have := HK2.out; omega
                    case rel => exact ⟨(x8_2), (wrap64 (x9_2 + 1)), (by first | rfl | (simp; done) | (simp [*]; done)), (by first | rfl | (simp; done) | (simp [*]; done)), H', ⟨by have := HK1.out; have := HK2.out; omega⟩, ⟨by (with_reducible repeat (first | refine blk_drewN ?_ _ | refine blk_drew ?_ | refine blk_alloc ?_ _)); exact BK118.out⟩, ⟨by repeat (first | (with_reducible first | exact HB.out | apply below_alloc | apply pw_below_drewN | apply below_drew1 | refine below_set ?_ GE118.out) | exact HB.out)⟩⟩
                · rw [if_neg c8] at H
                  exact absurd H (by simp)
              · rw [if_neg c7] at H
                exact absurd H (by simp)
            · rw [if_neg c6] at H
              have c6b0 : decide (x9_2 < (l2.length : Int)) = false := decide_eq_false c6
              clear c6
              replace H := Option.bind_eq_some_iff.mp H
              obtain ⟨t122, A140, H⟩ := H
              replace H : (if x8_2 > t122 then (some false) else (wishbookref10_kept.l0 k2 a1 l2 (wrap64 (x7_1 + 1)) l0_0 l0_1 l0_2)) = some r := H
              have A14 := Aside0.mk A140
              clear A140
              by_cases c15 : x8_2 > t122
              · rw [if_pos c15] at H
                have c15b0 : decide (t122 < x8_2) = true := decide_eq_true c15
                clear c15
                obtain rfl := Option.some.inj H
                have hcz16_0 : wr.cell? ⟨gb118, 0, none⟩ = some (.slice A0_0 l0_0.length c0_0) := (blk_cell BK118.out 0).trans rfl
                have hcz16_1 : wr.cell? ⟨gb118, 1, none⟩ = some (.slice A0_1 l0_1.length c0_1) := (blk_cell BK118.out 1).trans rfl
                have hcz16_2 : wr.cell? ⟨gb118, 2, none⟩ = some (.slice A0_2 l0_2.length c0_2) := (blk_cell BK118.out 2).trans rfl
                have hfz16_0 := blk_frozen BK118.out 0
                have hfz16_1 := blk_frozen BK118.out 1
                have hfz16_2 := blk_frozen BK118.out 2
                go_wp2_with (first | ((with_reducible refine gate_callee (f := 76) rfl ?_); refine goesL_ (some 48) rfl rfl Tryd.func76 (by kernel_rfl) rfl #[.agg #[.slice A0_0 l0_0.length c0_0, .slice A0_1 l0_1.length c0_1, .slice A0_2 l0_2.length c0_2], .int .i64 a1, .int .i64 x7_1] rfl (by (try simp only [List.map_toArray, List.map_cons, List.map_nil]); first | done | rfl | (simp only [List.length_drop, List.length_take]; rfl)) ?_; (with_reducible refine (wishbookref10_surely.calls k2 _ _ l0_0 _ _ l0_1 _ _ l0_2 a1 x7_1 t122 _ ?side1 ?side2 ?side3 ?side4 ?side5 ?side6 A14.out).mono ?_); (case side1 => repeat (first | exact (Kd.C_below HR0_0.out HB.out) | (with_reducible refine Kd.C_alloc ?_ _) | (with_reducible refine Kd.C_drewN ?_ _) | (with_reducible refine Kd.C_drew ?_))); (case side2 => exact HC0_0.out); (case side3 => repeat (first | exact (Kd.C_below HR0_1.out HB.out) | (with_reducible refine Kd.C_alloc ?_ _) | (with_reducible refine Kd.C_drewN ?_ _) | (with_reducible refine Kd.C_drew ?_))); (case side4 => exact HC0_1.out); (case side5 => repeat (first | exact (Kd.C_below HR0_2.out HB.out) | (with_reducible refine Kd.C_alloc ?_ _) | (with_reducible refine Kd.C_drewN ?_ _) | (with_reducible refine Kd.C_drew ?_))); (case side6 => exact HC0_2.out); rintro e w17 ⟨rfl, hb⟩; refine ⟨_, rfl, ?_⟩; have n0_ := Aside0.mk (blk_below (g := gb118) (o := .cells #[.slice A0_0 l0_0.length c0_0, .slice A0_1 l0_1.length c0_1, .slice A0_2 l0_2.length c0_2] 26 (0, 0)) (by (with_reducible repeat (first | refine blk_drewN ?_ _ | refine blk_drew ?_ | refine blk_alloc ?_ _)); exact BK118.out) hb); have n1_ := Aside0.mk (below_step (by repeat (first | (with_reducible first | exact HB.out | apply below_alloc | apply pw_below_drewN | apply below_drew1 | refine below_set ?_ GE118.out) | exact HB.out)) hb); clear BK118; clear HB; have BK118 := n0_; have HB := n1_; clear n0_ n1_; (try clear hb); (try clear hb2); (try clear hk); (try clear hi)))
                go_ret
                exact ⟨by first | rfl | (simp [errW_none, errW_some] <;> rfl) | (simp [*, errW_none, errW_some] <;> rfl), by repeat (first | (with_reducible first | exact HB.out | apply below_alloc | apply pw_below_drewN | apply below_drew1 | refine below_set ?_ GE118.out) | exact HB.out)⟩
              · rw [if_neg c15] at H
                have c15b0 : decide (t122 < x8_2) = false := decide_eq_false c15
                clear c15
                have H' := Aside0.mk H
                clear H
                have hcz18_0 : wr.cell? ⟨gb118, 0, none⟩ = some (.slice A0_0 l0_0.length c0_0) := (blk_cell BK118.out 0).trans rfl
                have hcz18_1 : wr.cell? ⟨gb118, 1, none⟩ = some (.slice A0_1 l0_1.length c0_1) := (blk_cell BK118.out 1).trans rfl
                have hcz18_2 : wr.cell? ⟨gb118, 2, none⟩ = some (.slice A0_2 l0_2.length c0_2) := (blk_cell BK118.out 2).trans rfl
                have hfz18_0 := blk_frozen BK118.out 0
                have hfz18_1 := blk_frozen BK118.out 1
                have hfz18_2 := blk_frozen BK118.out 2
                go_wp2_with (first | ((with_reducible refine gate_callee (f := 76) rfl ?_); refine goesL_ (some 48) rfl rfl Tryd.func76 (by kernel_rfl) rfl #[.agg #[.slice A0_0 l0_0.length c0_0, .slice A0_1 l0_1.length c0_1, .slice A0_2 l0_2.length c0_2], .int .i64 a1, .int .i64 x7_1] rfl (by (try simp only [List.map_toArray, List.map_cons, List.map_nil]); first | done | rfl | (simp only [List.length_drop, List.length_take]; rfl)) ?_; (with_reducible refine (wishbookref10_surely.calls k2 _ _ l0_0 _ _ l0_1 _ _ l0_2 a1 x7_1 t122 _ ?side1 ?side2 ?side3 ?side4 ?side5 ?side6 A14.out).mono ?_); (case side1 => repeat (first | exact (Kd.C_below HR0_0.out HB.out) | (with_reducible refine Kd.C_alloc ?_ _) | (with_reducible refine Kd.C_drewN ?_ _) | (with_reducible refine Kd.C_drew ?_))); (case side2 => exact HC0_0.out); (case side3 => repeat (first | exact (Kd.C_below HR0_1.out HB.out) | (with_reducible refine Kd.C_alloc ?_ _) | (with_reducible refine Kd.C_drewN ?_ _) | (with_reducible refine Kd.C_drew ?_))); (case side4 => exact HC0_1.out); (case side5 => repeat (first | exact (Kd.C_below HR0_2.out HB.out) | (with_reducible refine Kd.C_alloc ?_ _) | (with_reducible refine Kd.C_drewN ?_ _) | (with_reducible refine Kd.C_drew ?_))); (case side6 => exact HC0_2.out); rintro e w19 ⟨rfl, hb⟩; refine ⟨_, rfl, ?_⟩; have n0_ := Aside0.mk (blk_below (g := gb118) (o := .cells #[.slice A0_0 l0_0.length c0_0, .slice A0_1 l0_1.length c0_1, .slice A0_2 l0_2.length c0_2] 26 (0, 0)) (by (with_reducible repeat (first | refine blk_drewN ?_ _ | refine blk_drew ?_ | refine blk_alloc ?_ _)); exact BK118.out) hb); have n1_ := Aside0.mk (below_step (by repeat (first | (with_reducible first | exact HB.out | apply below_alloc | apply pw_below_drewN | apply below_drew1 | refine below_set ?_ GE118.out) | exact HB.out)) hb); clear BK118; clear HB; have BK118 := n0_; have HB := n1_; clear n0_ n1_; (try clear hb); (try clear hb2); (try clear hk); (try clear hi)))
                go_roundg k2
                case measure => have := HK1.out; have := HK2.out; omega
                case rel => exact ⟨(wrap64 (x7_1 + 1)), (by first | rfl | (simp; done) | (simp [*]; done)), H', ⟨by have := HK1.out; have := HK2.out; omega⟩, ⟨by (with_reducible repeat (first | refine blk_drewN ?_ _ | refine blk_drew ?_ | refine blk_alloc ?_ _)); exact BK118.out⟩, ⟨by repeat (first | (with_reducible first | exact HB.out | apply below_alloc | apply pw_below_drewN | apply below_drew1 | refine below_set ?_ GE118.out) | exact HB.out)⟩⟩
      · rw [if_neg c5] at H
        have c5b0 : decide (x7_1 ≤ 100) = false := decide_eq_false c5
        clear c5
        obtain rfl := Option.some.inj H
        go_wp2
        go_ret
        exact ⟨by first | rfl | (simp [errW_none, errW_some] <;> rfl) | (simp [*, errW_none, errW_some] <;> rfl), by repeat (first | (with_reducible first | exact HB.out | apply below_alloc | apply pw_below_drewN | apply below_drew1 | refine below_set ?_ GE118.out) | exact HB.out)⟩
end Go.Proofs.YtegpepnmnlockaaDoor.PL
namespace Go.Proofs.YtegpepnmnlockaaDoor.PL
open Go.RowKit Go.Proofs.YtegpepnmnlockaaDoorW.PrintWords Go.Proofs.YtegpepnmnlockaaDoorW.PrintLast Go.Proofs.YtegpepnmnlockaaDoorW.PrintMore
set_option linter.unusedVariables false
set_option linter.unusedSimpArgs false
theorem surely_l0 (l0 : List Int) (l1 : List S47) (l2 : List S57) (hl : l2.length ≤ 6) (hd : ∀ y ∈ l2, OkDel y) (g d : Int) (hdd : d ≤ 100) : ∀ (m i k : Nat), i + m = l2.length → m + 1 ≤ k →
    wishbookref10_surely.l0 k g d (comTo l2 i g d) i l0 l1 l2 = some (comTo l2 l2.length g d)
  | 0, i, k + 1, hi, hk => by
    unfold wishbookref10_surely.l0
    rw [if_neg (by omega), show i = l2.length by omega]
  | m + 1, i, k + 1, hi, hk => by
    have ih := surely_l0 l0 l1 l2 hl hd g d hdd m (i + 1) k (by omega) (by omega)
    have hb := comTo_bd hd g d i (by omega)
    have hy := rdmem57 hd (i := i) (by omega)
    unfold OkDel at hy
    unfold wishbookref10_surely.l0
    rw [if_pos (by omega), if_pos (by omega), wrap_succ (by omega)]
    have e := ih
    rw [comTo] at e
    by_cases c1 : (rd_T57 l2 i).f0 = g
    · by_cases c2 : (rd_T57 l2 i).f1.f1 ≤ d
      · rw [if_pos ⟨c1, c2, hdd⟩] at e
        rw [if_pos c1, if_pos c2, wrap_id (by omega) (by omega)]
        exact e
      · rw [if_neg (fun h => c2 h.2.1), Int.add_zero] at e
        rw [if_pos c1, if_neg c2]
        exact e
    · rw [if_neg (fun h => c1 h.1), Int.add_zero] at e
      rw [if_neg c1]
      exact e
theorem surely_f (l0 : List Int) (l1 : List S47) (l2 : List S57) (hl : l2.length ≤ 6) (hd : ∀ y ∈ l2, OkDel y) (g d : Int) (hdd : d ≤ 100) (k : Nat) (hk : 7 ≤ k) : wishbookref10_surely.f k l0 l1 l2 g d = some (comTo l2 l2.length g d) :=
  surely_l0 l0 l1 l2 hl hd g d hdd l2.length 0 k (by omega) (by omega)
def f2s (sh : List S49) : List Int := sh.map (fun s => s.f2)
theorem f2s_len (sh : List S49) : (f2s sh).length = sh.length := List.length_map _
theorem rd_f2s (sh : List S49) (i : Nat) : rd (f2s sh) i = (rd_T49 sh i).f2 := by
  unfold rd rd_T49 f2s
  rw [Int.toNat_natCast, List.getD_eq_getElem?_getD, List.getD_eq_getElem?_getD, List.getElem?_map]
  cases sh[i]? <;> rfl
section
variable (l0 : List Int) (l1 : List S47) (l2 : List S57) (sh : List S49) (good : Int)
theorem kept_l1 (hl : l2.length ≤ 6) (hd : ∀ y ∈ l2, OkDel y) (h1 : sh.length ≤ l1.length) (h2 : sh.length ≤ 10) (hs : ∀ s ∈ sh, 0 ≤ s.f2 ∧ s.f2 ≤ 20) (d : Int) (hdd : d ≤ 100) : ∀ (m i k : Nat), i + m = sh.length → m + 9 ≤ k →
    wishbookref10_kept.l1 k good (f2s sh) d (dueTo l1 good d sh i) i l0 l1 l2 = if dueTo l1 good d sh sh.length > comTo l2 l2.length good d then some false else wishbookref10_kept.l0 (k - (m + 1)) good (f2s sh) (wrap64 (d + 1)) l0 l1 l2
  | 0, i, k + 1, hi, hk => by
    unfold wishbookref10_kept.l1
    rw [if_neg (by rw [f2s_len]; omega), surely_f l0 l1 l2 hl hd good d hdd k (by omega), Option.bind_some, show i = sh.length by omega]
    rfl
  | m + 1, i, k + 1, hi, hk => by
    have ih := kept_l1 hl hd h1 h2 hs d hdd m (i + 1) k (by omega) (by omega)
    rw [show k - (m + 1) = k + 1 - (m + 1 + 1) by omega] at ih
    have hb := dueTo_bd l1 good d sh hs i (by omega)
    have hy := rdmem49 hs (i := i) (by omega)
    unfold wishbookref10_kept.l1
    rw [if_pos (by rw [f2s_len]; omega), if_pos (by omega), if_pos (by omega), wrap_succ (by omega), rd_f2s]
    rw [← ih, dueTo]
    by_cases c1 : (rd_T47 l1 i).f1 = good
    · by_cases c2 : (rd_T47 l1 i).f3 ≤ d
      · rw [if_pos c1, if_pos c2, if_pos ⟨c1, c2⟩, wrap_id (by omega) (by omega)]
      · rw [if_pos c1, if_neg c2, if_neg (fun h => c2 h.2), Int.add_zero]
    · rw [if_neg c1, if_neg (fun h => c1 h.1), Int.add_zero]
theorem kept_l0 (hl : l2.length ≤ 6) (hd : ∀ y ∈ l2, OkDel y) (h1 : sh.length ≤ l1.length) (h2 : sh.length ≤ 10) (hs : ∀ s ∈ sh, 0 ≤ s.f2 ∧ s.f2 ≤ 20) : ∀ (e d k : Nat), d + e = 101 → 20 * e + 20 ≤ k →
    wishbookref10_kept.l0 k good (f2s sh) d l0 l1 l2 = some ((List.range' d e).all fun j => decide (dueTo l1 good j sh sh.length ≤ comTo l2 l2.length good j))
  | 0, d, k + 1, hi, hk => by
    unfold wishbookref10_kept.l0
    rw [if_neg (by omega)]
    rfl
  | e + 1, d, k + 1, hi, hk => by
    have ih := kept_l0 hl hd h1 h2 hs e (d + 1) (k - (sh.length + 1)) (by omega) (by omega)
    unfold wishbookref10_kept.l0
    have h := kept_l1 l0 l1 l2 sh good hl hd h1 h2 hs d (by omega) sh.length 0 k (by omega) (by omega)
    rw [if_pos (by omega)]
    refine Eq.trans h ?_
    rw [wrap_succ (by omega), ih, List.range'_succ, List.all_cons]
    by_cases c : dueTo l1 good d sh sh.length ≤ comTo l2 l2.length good d
    · rw [if_neg (by omega), decide_eq_true c, Bool.true_and]
    · rw [if_pos (by omega), decide_eq_false c, Bool.false_and]
theorem kept_f (hl : l2.length ≤ 6) (hd : ∀ y ∈ l2, OkDel y) (h1 : sh.length ≤ l1.length) (h2 : sh.length ≤ 10) (hs : ∀ s ∈ sh, 0 ≤ s.f2 ∧ s.f2 ≤ 20) (k : Nat) (hk : 2040 ≤ k) :
    wishbookref10_kept.f k l0 l1 l2 good (f2s sh) = some (keptF l1 good sh (comTo l2 l2.length)) := by
  have h := kept_l0 l0 l1 l2 sh good hl hd h1 h2 hs 101 0 k (by omega) (by omega)
  unfold keptF keptUpto
  rw [List.range_eq_range']
  exact h
end
theorem dueTo_cong (l1 : List S47) (good d : Int) (sh sh' : List S49) : ∀ i : Nat, (∀ j : Nat, j < i → (rd_T49 sh j).f2 = (rd_T49 sh' j).f2) → dueTo l1 good d sh i = dueTo l1 good d sh' i
  | 0, _ => rfl
  | i + 1, h => by rw [dueTo, dueTo, dueTo_cong l1 good d sh sh' i (fun j hj => h j (by omega)), h i (by omega)]
theorem dueTo_le (l1 : List S47) (good d : Int) (sh sh' : List S49) : ∀ i : Nat, (∀ j : Nat, j < i → (rd_T49 sh j).f2 ≤ (rd_T49 sh' j).f2) → dueTo l1 good d sh i ≤ dueTo l1 good d sh' i
  | 0, _ => Int.le_refl _
  | i + 1, h => by
    have := dueTo_le l1 good d sh sh' i (fun j hj => h j (by omega))
    have := h i (by omega)
    rw [dueTo, dueTo]
    split <;> omega
theorem keptF_le (l1 : List S47) (good : Int) (sh sh' : List S49) (F : Int → Int → Int) (hl : sh.length = sh'.length) (h : ∀ j : Nat, j < sh.length → (rd_T49 sh j).f2 ≤ (rd_T49 sh' j).f2) (hk : keptF l1 good sh' F = true) : keptF l1 good sh F = true := by
  unfold keptF keptUpto at *
  rw [List.all_eq_true] at *
  intro d hd
  have h1 := of_decide_eq_true (hk d hd)
  have h2 := dueTo_le l1 good d sh sh' sh.length h
  rw [← hl] at h1
  exact decide_eq_true (Int.le_trans h2 h1)
theorem rd_snoc49 (sh : List S49) (s : S49) : rd_T49 (sh ++ [s]) sh.length = s := by
  unfold rd_T49
  rw [Int.toNat_natCast, List.getD_eq_getElem?_getD, List.getElem?_append_right (Nat.le_refl _), Nat.sub_self]
  rfl
theorem rd_old49 (sh : List S49) (s : S49) {j : Nat} (h : j < sh.length) : rd_T49 (sh ++ [s]) j = rd_T49 sh j := by
  unfold rd_T49
  rw [Int.toNat_natCast, List.getD_eq_getElem?_getD, List.getD_eq_getElem?_getD, List.getElem?_append_left h]
/-- Can the list be kept with n pieces of the next line? -/
def keptN (l1 : List S47) (good : Int) (sh : List S49) (F : Int → Int → Int) (n : Nat) : Bool := keptF l1 good (sh ++ [⟨0, 0, (n : Int), 0⟩]) F
theorem keptN_mono {l1 : List S47} {good : Int} {sh : List S49} {F : Int → Int → Int} {m n : Nat} (h : m ≤ n) (hk : keptN l1 good sh F n = true) : keptN l1 good sh F m = true := by
  refine keptF_le l1 good _ _ F (by simp) (fun j hj => ?_) hk
  rw [List.length_append, List.length_singleton] at hj
  by_cases c : j < sh.length
  · rw [rd_old49 _ _ c, rd_old49 _ _ c]
    exact Int.le_refl _
  · obtain rfl : j = sh.length := by omega
    rw [rd_snoc49, rd_snoc49]
    dsimp only
    omega
theorem listedF_stop {l1 : List S47} {good : Int} {sh : List S49} {F : Int → Int → Int} {m : Nat} (h1 : m = 0 ∨ keptN l1 good sh F m = true) (h2 : keptN l1 good sh F (m + 1) = false) : ∀ n, m ≤ n → listedF l1 good sh F n = m
  | 0, h => by rw [listedF]; omega
  | n + 1, h => by
    rw [listedF]
    change (if keptN l1 good sh F (n + 1) = true then n + 1 else listedF l1 good sh F n) = _
    by_cases e : n + 1 = m
    · subst e
      rw [if_pos (h1.resolve_left (by omega))]
    · have hn : ¬ keptN l1 good sh F (n + 1) = true := fun hk => by
        have := keptN_mono (m := m + 1) (by omega) hk
        rw [h2] at this
        cases this
      rw [if_neg hn]
      exact listedF_stop h1 h2 n (by omega)
theorem listedF_all {l1 : List S47} {good : Int} {sh : List S49} {F : Int → Int → Int} {m : Nat} (h1 : m = 0 ∨ keptN l1 good sh F m = true) : listedF l1 good sh F m = m := by
  cases m with
  | zero => rfl
  | succ m =>
    rw [listedF]
    change (if keptN l1 good sh F (m + 1) = true then m + 1 else listedF l1 good sh F m) = _
    rw [if_pos (h1.resolve_left (by omega))]
theorem f2s_snoc (sh : List S49) (n : Nat) : f2s (sh ++ [(⟨0, 0, (n : Int), 0⟩ : S49)]) = f2s sh ++ [(n : Int)] := by simp [f2s]
end Go.Proofs.YtegpepnmnlockaaDoor.PL
namespace Go.Proofs.YtegpepnmnlockaaDoor.PL
open Go.RowKit Go.Proofs.YtegpepnmnlockaaDoorW.PrintWords Go.Proofs.YtegpepnmnlockaaDoorW.PrintLast Go.Proofs.YtegpepnmnlockaaDoorW.PrintMore
attribute [local go_sem] max2_int min2_int max_two min_two max_three min_three max_four min_four
set_option linter.unusedVariables false
set_option linter.unusedSimpArgs false
theorem With_f (l : List Int) (a : Int) (h : l.length ≤ 1000) : wishbookref00_With.f l a = some (l ++ [a]) := by
  unfold wishbookref00_With.f
  simp only [Option.bind_some, List.nil_append, List.length_nil]
  rw [if_pos (by omega), if_pos (by omega)]
/-- One line more is served. -/
def stepF (l1 : List S47) (F : Int → Int → Int) (k : Nat) (s : List Int × List S49) : List Int × List S49 := (left2F (rd_T47 l1 k) s.1, s.2 ++ [shareF l1 F (rd_T47 l1 k) s.1 s.2])
theorem serveF_snoc (l1 : List S47) (F : Int → Int → Int) : ∀ (d k : Nat) (s : List Int × List S49), serveF l1 F (d + 1) k s = stepF l1 F (k + d) (serveF l1 F d k s)
  | 0, k, s => rfl
  | d + 1, k, s => by
    have ih := serveF_snoc l1 F d (k + 1) (stepF l1 F k s)
    show serveF l1 F (d + 1) (k + 1) (stepF l1 F k s) = stepF l1 F (k + (d + 1)) (serveF l1 F d (k + 1) (stepF l1 F k s))
    rw [ih, show k + 1 + d = k + (d + 1) by omega]
theorem R_own {α : Type} {d : Kd α} {e base : Nat} {ok : Nat → Prop} {w : World} {u : Value} {ys : List α} (hE : d.E = []) (h : d.R e w base ok u ys) {k : Nat} (hk : u.ownBlock = some k) : ∃ cells, w.heap[k]? = some (.cells cells e (0, 0)) := by
  obtain ⟨_, _, _, q, hq, c, hc⟩ := (Kd.R_bound h).1 k hk
  rw [hE, List.mem_singleton] at hq
  subst hq
  exact ⟨c, hc⟩
/-- Two rows of different types: what is appended to the one leaves the other as it was. -/
theorem R_two {α β : Type} {d : Kd α} {d2 : Kd β} {e e2 base base2 : Nat} {ok ok2 : Nat → Prop} {w w1 : World} {v u : Value} {xs : List α} {ys : List β} (hE2 : d2.E = []) (hE : d.E = []) (hne : e ≠ e2) (h : d.R e w base ok v xs) (h2 : d2.R e2 w base2 ok2 u ys) (hg : w.grownBy w1 u.ownBlock) : d.R e w1 base ok v xs := by
  refine Kd.R_grown2 h hE hg fun k hu hh => ?_
  obtain ⟨c, hc⟩ := R_own hE2 h2 hu
  obtain ⟨c', hc'⟩ := R_own hE h hh.symm
  rw [hc] at hc'
  injection hc' with hc'
  injection hc' with _ h3
  exact hne h3.symm
theorem serve_facts {l0 : List Int} {l1 : List S47} {l2 : List S57} (hb : okB l0 l1 l2 = true) (F : Int → Int → Int) : ∀ k : Nat, k ≤ l1.length → (serveF l1 F k 0 (left0 l0, [])).1.length = 5 ∧ (serveF l1 F k 0 (left0 l0, [])).2.length = k ∧ (∀ y ∈ (serveF l1 F k 0 (left0 l0, [])).1, 0 ≤ y ∧ y ≤ 50) ∧ (∀ y ∈ (serveF l1 F k 0 (left0 l0, [])).2, OkShare y)
  | 0, _ => ⟨left0_len (okB_facts hb).2.1, rfl, left0_ok (okB_facts hb).2.2.2.2.2.1, fun y hy => by simp [serveF] at hy⟩
  | k + 1, hk => by
    obtain ⟨e1, e2, e3, e4⟩ := serve_facts hb F k (by omega)
    have hs := serveF_snoc l1 F k 0 (left0 l0, [])
    rw [Nat.zero_add] at hs
    have hx : OkLine (rd_T47 l1 k) := okLine_of (okB_facts hb).2.1 (okB_line hb hk)
    obtain ⟨o1, o2, o3⟩ := shareF_ok l1 F (serveF l1 F k 0 (left0 l0, [])).2 hx e3
    rw [hs]
    unfold stepF
    refine ⟨?_, by rw [List.length_append, e2]; rfl, o3, fun y hy => ?_⟩
    · show (left2F _ _).length = 5
      rw [left2F, leftOf_len, left1F, List.length_set, e1]
    · rcases List.mem_append.1 hy with hy | hy
      · exact e4 y hy
      · rw [List.mem_singleton.1 hy]; exact o1
def wishbookref10_served.f (l0 : List Int) (l1 : List S47) (l2 : List S57) : Option (List S49 × List Int) :=
  if Few l0 l1 l2 then (if okB l0 l1 l2 = true then some ((servF l0 l1 l2).2, (servF l0 l1 l2).1.take l0.length) else none) else none
set_option maxHeartbeats 8000000 in
set_option maxRecDepth 100000 in
theorem wishbookref10_served.calls (A0 : Option Addr) (c0 : Nat) (l0 : List Int) (A1 : Option Addr) (c1 : Nat) (l1 : List S47) (A2 : Option Addr) (c2 : Nat) (l2 : List S57) (r1 : List S49) (r2 : List Int) (w : World)
    (h0 : Kd.C (Kd.int .i64) w A0 l0.length l0) (hc0 : l0.length ≤ c0) (h1 : Kd.C k47 w A1 l1.length l1) (hc1 : l1.length ≤ c1) (h2 : Kd.C k57 w A2 l2.length l2) (hc2 : l2.length ≤ c2)
    (h : wishbookref10_served.f l0 l1 l2 = some (r1, r2)) :
    Calls Tryd.prog 48 #[.agg #[.slice A0 l0.length c0, .slice A1 l1.length c1, .slice A2 l2.length c2]] w fun e w' => ∃ v0_ v1_ : Value, e = .returned (.tuple #[v0_, v1_]) ∧
      Kd.R k49 49 w' w.heap.size (fun _ => True) v0_ r1 ∧ Kd.R (Kd.int .i64) 3 w' w.heap.size (fun _ => True) v1_ r2 ∧ Below w.heap.size w w' := by
  unfold wishbookref10_served.f at h
  by_cases hf : Few l0 l1 l2
  case neg => rw [if_neg hf] at h; cases h
  rw [if_pos hf] at h
  cases hb : okB l0 l1 l2 with
  | false => rw [hb] at h; cases h
  | true =>
    rw [hb, if_pos rfl] at h
    obtain ⟨F, hF⟩ : ∃ F, F = comTo l2 l2.length := ⟨_, rfl⟩
    have hserv : servF l0 l1 l2 = serveF l1 F l1.length 0 (left0 l0, []) := by rw [hF]; rfl
    rw [hserv] at h
    obtain ⟨rfl, rfl⟩ := Prod.mk.inj (Option.some.inj h)
    clear h hserv
    have FF := Aside0.mk (okB_facts hb)
    have hn1 : 1 ≤ l0.length := FF.out.1
    have hn5 : l0.length ≤ 5 := FF.out.2.1
    have hl10 : l1.length ≤ 10 := FF.out.2.2.2.1
    have hl6 : l2.length ≤ 6 := FF.out.2.2.2.2.1
    have HOKL := Aside0.mk (show ∀ x ∈ l1, OkLine x from fun x hx => okLine_of hn5 (FF.out.2.2.2.2.2.2.1 x hx))
    have HOKD := Aside0.mk (show ∀ y ∈ l2, OkDel y from fun y hy => okDel_of hn5 (FF.out.2.2.2.2.2.2.2 y hy))
    have HF := Aside0.mk hF
    have HHB := Aside0.mk hb
    have H0 := Aside0.mk h0
    have H1 := Aside0.mk h1
    have H2 := Aside0.mk h2
    have HC := Aside0.mk (And.intro hc0 (And.intro hc1 hc2))
    have HSV := Aside0.mk (show ∀ k : Nat, k ≤ l1.length → (serveF l1 F k 0 (left0 l0, [])).1.length = 5 ∧ (serveF l1 F k 0 (left0 l0, [])).2.length = k ∧ (∀ y ∈ (serveF l1 F k 0 (left0 l0, [])).1, 0 ≤ y ∧ y ≤ 50) ∧ (∀ y ∈ (serveF l1 F k 0 (left0 l0, [])).2, OkShare y) from serve_facts hb F)
    clear h0 h1 h2 hc0 hc1 hc2 hb hF hf
    have hu26 := Tryd.underlying26
    have hu47 := Tryd.underlying47
    have hu49 := Tryd.underlying49
    have HW1 := Aside0.mk (below_alloc (Below.refl w.heap.size w) (.cells #[.slice A0 l0.length c0, .slice A1 l1.length c1, .slice A2 l2.length c2] 26))
    have HX1 := Aside0.mk (heap_alloc_new w (.cells #[.slice A0 l0.length c0, .slice A1 l1.length c1, .slice A2 l2.length c2] 26))
    go_enter Tryd.func48, Tryd.ntmps48
    go_upto_region 2 with (fail)
    generalize w.alloc (Obj.cells #[Value.slice A0 l0.length c0, .slice A1 l1.length c1, .slice A2 l2.length c2] 26) = W1 at HW1 HX1 ⊢
    have q0 := (blk_cell HX1.out 0).trans (show _ = some (Value.slice A0 l0.length c0) from rfl)
    go_wp2_with (first | ((with_reducible refine gate_dst (N := 11) rfl ?_); refine Kd.R_lit (Kd.int .i64) _ 3 ?hg (N := 11) ?hd (xs := ([] : List Int)) (inner := []) (ok := fun _ => True) (okp := fun _ => True) ?hr ?hp (fun _ hk => hk) trivial (Below.refl _ _) (Nat.le_refl _) (by simp) ?_; (case hd => rfl); (case hg => rfl); (case hr => first | (go_simp; done) | (go_simp; rfl)); (case hp => exact (Reps.none _ _)); intro v2 w2 ho2 hb2 hg_ hnew_; have HO2 := Aside0.mk ho2; have HB2 := Aside0.mk hb2; have q0' := pw_cell_below hb2 q0; clear ho2 hb2 hg_ hnew_) | ((with_reducible refine gate_builtin (b := .append) (xs := #[.tmp 11, .tmp 13]) rfl ?_); at_builtin; refine Kd.R_append_rows (Kd.int .i64) (w0 := W1) W1.heap.size rfl (.tmp 11) (.tmp 13) 22 3 (.int .i64 0) 8 rfl Tryd.underlying22 info3 rfl (by decide) (by omega) v2 [] l0 _ _ _ (fun _ => True) (fun _ => False) rfl rfl ?aO ?aR (fun _ _ h => h) (fun _ h => h.elim) ?aF ?aB ?aS ?aL ?_; (case aR => exact Kd.C_below (Kd.C_below H0.out HW1.out) HB2.out); (case aB => exact HB2.out); (case aF => exact (fun _ _ => trivial)); (case aO => exact HO2.out); (case aS => exact (below_size HB2.out)); (case aL => simp only [List.length_nil]; omega); intro v3 w3 ho3 hb3 hg3 hat3; rw [List.nil_append] at ho3; have HO3 := Aside0.mk ho3; have HB3 := Aside0.mk hb3; clear ho3 hb3 hg3 hat3))
    have hne : l0 ≠ [] := fun e => by rw [e] at hn1; simp at hn1
    obtain ⟨bl, cap, cur, rfl, hbl, hcur, hcp1, hcp2, hcp3, hcp4⟩ := R_row HO3.out hne
    have HLA := Aside0.mk (show LeftAt w3 bl l0.length cap (left0 l0) from ⟨cur, hcur, hcp3, hcp1, hcp2, by rw [hcp4, left0, List.take_left]⟩)
    have HBL := Aside0.mk hbl
    clear HO3 HO2 HB2 q0 q0' hcur hcp1 hcp2 hcp3 hcp4 hne hbl
    have hk1 := HC.out.2.1
    have PX1 := Aside0.mk ((blk_cell HX1.out 1).trans (show _ = some (Value.slice A1 l1.length c1) from rfl))
    have PX0 := Aside0.mk ((blk_cell HX1.out 0).trans (show _ = some (Value.slice A0 l0.length c0) from rfl))
    have PX2 := Aside0.mk ((blk_cell HX1.out 2).trans (show _ = some (Value.slice A2 l2.length c2) from rfl))
    go_loopw [4, 6, 7] (fun v4 v6 v7 wr => ∃ k : Nat, k ≤ l1.length ∧ v7 = .int .i64 k ∧ Aside0 (LeftAt wr bl l0.length cap (serveF l1 F k 0 (left0 l0, [])).1) ∧ Aside0 (Kd.R k49 49 wr W1.heap.size (fun _ => True) v4 (serveF l1 F k 0 (left0 l0, [])).2) ∧ Aside0 (Kd.R (Kd.int .i64) 3 wr W1.heap.size (fun q => q ≠ bl) v6 (f2s (serveF l1 F k 0 (left0 l0, [])).2)) ∧ Aside0 (Below W1.heap.size W1 wr)) (fun _ _ i _ => l1.length - (intOf i).toNat)
    case atStart => exact ⟨0, by omega, rfl, HLA, ⟨Kd.R_nil _ _ _ _ _⟩, ⟨Kd.R_nil _ _ _ _ _⟩, HB3⟩
    case round =>
      obtain ⟨k, hk, rfl, HL, HO, HI, HB⟩ := hrel
      obtain ⟨wo, rfl⟩ : ∃ wo : World, wo = wr := ⟨_, rfl⟩
      by_cases hkl : k < l1.length
      · have hstep := serveF_snoc l1 F k 0 (left0 l0, [])
        rw [Nat.zero_add] at hstep
        have hsv := HSV.out k hk
        obtain ⟨L, hL⟩ : ∃ L, L = (serveF l1 F k 0 (left0 l0, [])).1 := ⟨_, rfl⟩
        obtain ⟨sh, hsh⟩ : ∃ sh, sh = (serveF l1 F k 0 (left0 l0, [])).2 := ⟨_, rfl⟩
        unfold stepF at hstep
        rw [← hL, ← hsh] at hstep hsv
        rw [← hL] at HL
        rw [← hsh] at HO HI
        clear hL hsh
        have HSTEP := Aside0.mk hstep
        clear hstep
        obtain ⟨hL5, hshk, hLb, hshb⟩ := hsv
        obtain ⟨Ai, ci, rfl⟩ := Kd.R_slice HI.out
        have hci := (Kd.R_reads' HI.out).2.1
        have HCI := Aside0.mk hci
        clear hci
        have HSK := Aside0.mk hshk
        have HLB := Aside0.mk hLb
        have HSB := Aside0.mk hshb
        have HLX := Aside0.mk (okB_line HHB.out hkl)
        obtain ⟨x, hx⟩ : ∃ x, x = rd_T47 l1 k := ⟨_, rfl⟩
        obtain ⟨ad1, e1, k0, k1, k2, k3, k4⟩ := at_T47 (Kd.C_below (Kd.C_below H1.out HW1.out) HB.out) k (by omega) (by omega)
        cases e1
        rw [← hx] at k0 k1 k2 k3 k4 HLX HSTEP
        simp only [Int.toNat_natCast] at k0 k1 k2 k3 k4
        clear hshk hLb hshb hx
        have y1 := pw_cell_below HB.out PX1.out
        have HBA := Aside0.mk (below_alloc (below_alloc HB.out (Obj.cells #[.int .i64 x.f0, .int .i64 x.f1, .int .i64 x.f2, .int .i64 x.f3, .int .i64 x.f4] 47)) (Obj.cells #[.int .i64 0, .int .i64 0, .int .i64 0, .int .i64 0] 49))
        have HLA2 := Aside0.mk (HL.out.below (below_alloc (below_alloc (Below.refl _ _) (Obj.cells #[.int .i64 x.f0, .int .i64 x.f1, .int .i64 x.f2, .int .i64 x.f3, .int .i64 x.f4] 47)) (Obj.cells #[.int .i64 0, .int .i64 0, .int .i64 0, .int .i64 0] 49)))
        have HOT : Aside0 (Kd.R k49 49 wo W1.heap.size (fun q => True ∧ q ≠ bl) u4 sh) := ⟨by obtain ⟨curL, hcurL, -⟩ := HL.out; exact Kd.R_types HO.out hcurL (by decide)⟩
        have HOA := Aside0.mk (Kd.R_alloc (Kd.R_alloc (Kd.R_mono (Kd.R_bound HOT.out) (ok' := fun q => q ≠ bl ∧ q < wo.heap.size) (fun _ h => ⟨h.1.2, h.2.2.1⟩)) (Obj.cells #[.int .i64 x.f0, .int .i64 x.f1, .int .i64 x.f2, .int .i64 x.f3, .int .i64 x.f4] 47)) (Obj.cells #[.int .i64 0, .int .i64 0, .int .i64 0, .int .i64 0] 49))
        have HIA := Aside0.mk (Kd.R_alloc (Kd.R_alloc (Kd.R_mono (Kd.R_bound HI.out) (ok' := fun q => q ≠ bl ∧ q < wo.heap.size) (fun _ h => ⟨h.1, h.2.2.1⟩)) (Obj.cells #[.int .i64 x.f0, .int .i64 x.f1, .int .i64 x.f2, .int .i64 x.f3, .int .i64 x.f4] 47)) (Obj.cells #[.int .i64 0, .int .i64 0, .int .i64 0, .int .i64 0] 49))
        have HXA := Aside0.mk (blk_alloc (heap_alloc_new wo (Obj.cells #[.int .i64 x.f0, .int .i64 x.f1, .int .i64 x.f2, .int .i64 x.f3, .int .i64 x.f4] 47)) (Obj.cells #[.int .i64 0, .int .i64 0, .int .i64 0, .int .i64 0] 49))
        have HSA := Aside0.mk (heap_alloc_two wo (Obj.cells #[.int .i64 x.f0, .int .i64 x.f1, .int .i64 x.f2, .int .i64 x.f3, .int .i64 x.f4] 47) (Obj.cells #[.int .i64 0, .int .i64 0, .int .i64 0, .int .i64 0] 49))
        go_upto_region 9 with (fail)
        clear k1 k2 k3 k4 k0
        generalize (wo.alloc (Obj.cells #[.int .i64 x.f0, .int .i64 x.f1, .int .i64 x.f2, .int .i64 x.f3, .int .i64 x.f4] 47)).alloc (Obj.cells #[.int .i64 0, .int .i64 0, .int .i64 0, .int .i64 0] 49) = W2 at HBA HLA2 HOA HIA HXA HSA ⊢
        obtain ⟨⟨-, -⟩, ⟨a1, a2⟩, ⟨a3, a4⟩, ⟨a5, a6⟩, ⟨a7, a8⟩, a9⟩ := HLX.out
        obtain ⟨gi, hgi⟩ := Int.eq_ofNat_of_zero_le a1
        have hgn : gi < l0.length := by omega
        have hbx : bl < wo.heap.size := HL.out.lt
        have cl := HLA2.out.cell (by omega) hgn
        have cx1 := (blk_cell HXA.out 1).trans (show _ = some (Value.int .i64 gi) from by rw [← hgi]; rfl)
        have cx2 := (blk_cell HXA.out 2).trans (show _ = some (Value.int .i64 x.f2) from rfl)
        have fs0 := blk_frozen HSA.out 0
        have cs0 := (blk_cell HSA.out 0).trans (show _ = some (Value.int .i64 0) from rfl)
        obtain ⟨cl, fl⟩ := cl
        have hrd := rd_bd HLB.out gi
        have hm0 := sentF_bd (x := x) HLB.out (by omega) a1
        have HM0 := Aside0.mk (show sentF x L = mn x.f2 (rd L gi) by unfold sentF; rw [hgi])
        rw [HM0.out, hgi] at hm0
        have HGI := Aside0.mk hgi
        clear hgi a1 a2 a9 y1
        have g0 : (0 : Int) ≤ (gi : Int) := by omega
        have g1 : (gi : Int) < (l0.length : Int) := by omega
        go_upto_region 11 with (fail)
        generalize hm0e : (if rd L (gi : Int) < x.f2 then rd L (gi : Int) else x.f2) = m0
        have hm0f : mn x.f2 (rd L gi) = m0 := hm0e
        rw [hm0f] at HM0 hm0
        clear hm0e hm0f
        have hne1 : bl ≠ wo.heap.size + 1 := by omega
        have HSB1 := Aside0.mk (show W1.heap.size ≤ wo.heap.size from below_size HB.out)
        have HB3' := Aside0.mk (HBA.out.setCell (p := ⟨wo.heap.size + 1, 0, none⟩) (Nat.le_succ_of_le HSB1.out) (Value.int .i64 m0))
        have HL3 := Aside0.mk (HLA2.out.at (Below.heap_setCell W2 ⟨wo.heap.size + 1, 0, none⟩ (Value.int .i64 m0) bl hne1))
        have HO3 := Aside0.mk (Kd.R_far (p := ⟨wo.heap.size + 1, 0, none⟩) HOA.out (fun q hq => by dsimp only; omega) (Value.int .i64 m0))
        have HI3 := Aside0.mk (Kd.R_far (p := ⟨wo.heap.size + 1, 0, none⟩) HIA.out (fun q hq => by dsimp only; omega) (Value.int .i64 m0))
        have HX3 := Aside0.mk (blk_far (p := ⟨wo.heap.size + 1, 0, none⟩) HXA.out (by simp) (Value.int .i64 m0))
        have HS3 := Aside0.mk (show (W2.setCell ⟨wo.heap.size + 1, 0, none⟩ (Value.int .i64 m0)).heap[wo.heap.size + 1]? = some (.cells #[.int .i64 m0, .int .i64 0, .int .i64 0, .int .i64 0] 49 (0, 0)) from blk_put HSA.out 0 _ rfl)
        clear cl fl cx1 cx2 cs0 fs0 HBA HLA2 HOA HIA HXA HSA
        generalize W2.setCell ⟨wo.heap.size + 1, 0, none⟩ (Value.int .i64 m0) = W3 at HB3' HL3 HO3 HI3 HX3 HS3 ⊢
        obtain ⟨cl, fl⟩ := HL3.out.cell (by omega) hgn
        have cx1 := (blk_cell HX3.out 1).trans (show _ = some (Value.int .i64 gi) from by rw [← HGI.out]; rfl)
        have cs0 := (blk_cell HS3.out 0).trans (show _ = some (Value.int .i64 m0) from rfl)
        have w1 : IntKind.i64.wrap (x.f2 - m0) = x.f2 - m0 := by rw [IntKind.wrap_i64]; omega
        have w2 : IntKind.i64.wrap (rd L gi - m0) = rd L gi - m0 := by rw [IntKind.wrap_i64]; omega
        go_still_tail 17, (by kernel_rfl)
        change wpList _ _ _ _ _ W3.drew
        have HB4 := Aside0.mk (below_drew (HB3'.out.setCell (p := ⟨bl, gi, none⟩) HBL.out (Value.int .i64 (rd L gi - m0))))
        have HL4 := Aside0.mk (LeftAt.at (w' := (W3.setCell ⟨bl, gi, none⟩ (Value.int .i64 (rd L gi - m0))).drew) (LeftAt.put HL3.out gi (rd L gi - m0)) rfl)
        have HO4 := Aside0.mk (Kd.R_drew (Kd.R_far (p := ⟨bl, gi, none⟩) HO3.out (fun q hq => hq.1) (Value.int .i64 (rd L gi - m0))))
        have HI4 := Aside0.mk (Kd.R_drew (Kd.R_far (p := ⟨bl, gi, none⟩) HI3.out (fun q hq => hq.1) (Value.int .i64 (rd L gi - m0))))
        have HX4 := Aside0.mk (blk_drew (blk_far (p := ⟨bl, gi, none⟩) HX3.out (by show wo.heap.size ≠ bl; omega) (Value.int .i64 (rd L gi - m0))))
        have HS4 := Aside0.mk (blk_drew (blk_far (p := ⟨bl, gi, none⟩) HS3.out hne1.symm (Value.int .i64 (rd L gi - m0))))
        go_upto_region 12 with (fail)
        generalize (W3.setCell ⟨bl, gi, none⟩ (Value.int .i64 (rd L gi - m0))).drew = W4 at HB4 HL4 HO4 HI4 HX4 HS4 ⊢
        clear cl fl cx1 cs0 w1 w2 HB3' HL3 HO3 HI3 HX3 HS3
        have HL4' : Aside0 (LeftAt W4 bl l0.length cap (left1F x L)) := ⟨by
          have e : left1F x L = L.set gi (rd L gi - m0) := by
            unfold left1F
            rw [HM0.out, HGI.out, Int.toNat_natCast]
          rw [e]
          exact HL4.out⟩
        have cx4 := (blk_cell HX4.out 4).trans (show _ = some (Value.int .i64 x.f4) from rfl)
        obtain ⟨L1, hL1⟩ : ∃ L1, L1 = left1F x L := ⟨_, rfl⟩
        have hlb1 := left1F_ok (x := x) HLB.out (by omega) (by rw [HGI.out]; omega)
        have hL15 : L1.length = 5 := by rw [hL1, left1F, List.length_set, hL5]
        rw [← hL1] at HL4' hlb1
        have HL1 := Aside0.mk hL1
        have HLB1 := Aside0.mk hlb1
        have hib := instOf_bd (ins := x.f4) (rest := x.f2 - m0) hlb1 (by omega)
        clear hL1 hlb1 HL4
        go_upto_if 55 with (fail)
        go_cut [10] (fun v10 wc => v10 = .int .i64 (wantF x L) ∧ Aside0 (LeftAt wc bl l0.length cap (left2F x L)) ∧ Aside0 (Kd.R k49 49 wc W1.heap.size (fun q => q ≠ bl ∧ q < wo.heap.size) u4 sh) ∧ Aside0 (Kd.R (Kd.int .i64) 3 wc W1.heap.size (fun q => q ≠ bl ∧ q < wo.heap.size) (.slice Ai (f2s sh).length ci) (f2s sh)) ∧ Aside0 (wc.heap[wo.heap.size]? = some (.cells #[.int .i64 x.f0, .int .i64 x.f1, .int .i64 x.f2, .int .i64 x.f3, .int .i64 x.f4] 47 (0, 0))) ∧ Aside0 (wc.heap[wo.heap.size + 1]? = some (.cells #[.int .i64 m0, .int .i64 (instF x L), .int .i64 0, .int .i64 0] 49 (0, 0))) ∧ Aside0 (Below W1.heap.size W1 wc))
        case first =>
          by_cases cn : x.f4 < 0
          · have i1 : instF x L = 0 := by unfold instF instOf; rw [if_pos cn]
            have i2 : left2F x L = L1 := by unfold left2F leftOf; rw [if_pos cn, HL1.out]
            have I1 := Aside0.mk i1
            have I2 := Aside0.mk i2
            have dn : decide (0 ≤ x.f4) = false := decide_eq_false (by omega)
            clear i1 i2
            go_wp2
            go_meet
            case rel => exact ⟨by unfold wantF; rw [HM0.out, I1.out, Int.sub_zero], by rw [I2.out]; exact HL4', HO4, HI4, HX4, by rw [I1.out]; exact HS4, HB4⟩
          · obtain ⟨ii, hii⟩ := Int.eq_ofNat_of_zero_le (show 0 ≤ x.f4 by omega)
            have hin : ii < l0.length := by omega
            have dn : decide (0 ≤ x.f4) = true := decide_eq_true (by omega)
            have hdn : decide (0 ≤ (ii : Int)) = true := decide_eq_true (by omega)
            have hI1 : instOf x.f4 (x.f2 - m0) L1 = mn (x.f2 - m0) (rd L1 ii) := by unfold instOf; rw [if_neg cn, hii]
            have HI1 : Aside0 (instF x L = mn (x.f2 - m0) (rd L1 ii)) := ⟨by rw [← hI1]; unfold instF; rw [HM0.out, HL1.out]⟩
            have HI2 : Aside0 (left2F x L = L1.set ii (rd L1 ii - mn (x.f2 - m0) (rd L1 ii))) := ⟨by
              unfold left2F leftOf
              rw [if_neg cn, HM0.out, ← HL1.out, hI1, hii, Int.toNat_natCast]⟩
            rw [hI1, hii] at hib
            rw [hii] at cx4
            have HII := Aside0.mk hii
            have hrd1 := rd_bd HLB1.out ii
            have g2 : (0 : Int) ≤ (ii : Int) := by omega
            have g3 : (ii : Int) < (l0.length : Int) := by omega
            obtain ⟨cl, fl⟩ := HL4'.out.cell (by omega) hin
            have fs1 := blk_frozen HS4.out 1
            have cs1 := (blk_cell HS4.out 1).trans (show _ = some (Value.int .i64 0) from rfl)
            have hib3 := hib.2.2 (by omega)
            have hib1 := hib.1
            have hib2 := hib.2.1
            have c0 : 0 ≤ x.f4 := by omega
            clear hI1 hii hib
            go_upto_region 14 with (fail)
            generalize hm1e : (if rd L1 (ii : Int) < x.f2 - m0 then rd L1 (ii : Int) else x.f2 - m0) = m1
            have hm1f : mn (x.f2 - m0) (rd L1 ii) = m1 := hm1e
            rw [hm1f] at HI1 HI2 hib3 hib1 hib2
            clear hm1e hm1f
            have HB5 := Aside0.mk (HB4.out.setCell (p := ⟨wo.heap.size + 1, 1, none⟩) (Nat.le_succ_of_le HSB1.out) (Value.int .i64 m1))
            have HL5 := Aside0.mk (HL4'.out.at (Below.heap_setCell W4 ⟨wo.heap.size + 1, 1, none⟩ (Value.int .i64 m1) bl hne1))
            have HO5 := Aside0.mk (Kd.R_far (p := ⟨wo.heap.size + 1, 1, none⟩) HO4.out (fun q hq => by dsimp only; omega) (Value.int .i64 m1))
            have HI5 := Aside0.mk (Kd.R_far (p := ⟨wo.heap.size + 1, 1, none⟩) HI4.out (fun q hq => by dsimp only; omega) (Value.int .i64 m1))
            have HX5 := Aside0.mk (blk_far (p := ⟨wo.heap.size + 1, 1, none⟩) HX4.out (by simp) (Value.int .i64 m1))
            have HS5 := Aside0.mk (show (W4.setCell ⟨wo.heap.size + 1, 1, none⟩ (Value.int .i64 m1)).heap[wo.heap.size + 1]? = some (.cells #[.int .i64 m0, .int .i64 m1, .int .i64 0, .int .i64 0] 49 (0, 0)) from blk_put HS4.out 1 _ rfl)
            clear cl fl cx4 cs1 fs1 HB4 HL4' HO4 HI4 HX4 HS4
            generalize W4.setCell ⟨wo.heap.size + 1, 1, none⟩ (Value.int .i64 m1) = W5 at HB5 HL5 HO5 HI5 HX5 HS5 ⊢
            obtain ⟨cl, fl⟩ := HL5.out.cell (by omega) hin
            have cx4 := (blk_cell HX5.out 4).trans (show _ = some (Value.int .i64 ii) from by rw [← HII.out]; rfl)
            have cs1 := (blk_cell HS5.out 1).trans (show _ = some (Value.int .i64 m1) from rfl)
            have w1 : IntKind.i64.wrap (x.f2 - m0 - m1) = x.f2 - m0 - m1 := by rw [IntKind.wrap_i64]; omega
            have w2 : IntKind.i64.wrap (rd L1 ii - m1) = rd L1 ii - m1 := by rw [IntKind.wrap_i64]; omega
            go_still_tail 17, (by kernel_rfl)
            change wpList _ _ _ _ _ W5.drew
            have HB6 := Aside0.mk (below_drew (HB5.out.setCell (p := ⟨bl, ii, none⟩) HBL.out (Value.int .i64 (rd L1 ii - m1))))
            have HL6 := Aside0.mk (LeftAt.at (w' := (W5.setCell ⟨bl, ii, none⟩ (Value.int .i64 (rd L1 ii - m1))).drew) (LeftAt.put HL5.out ii (rd L1 ii - m1)) rfl)
            have HO6 := Aside0.mk (Kd.R_drew (Kd.R_far (p := ⟨bl, ii, none⟩) HO5.out (fun q hq => hq.1) (Value.int .i64 (rd L1 ii - m1))))
            have HI6 := Aside0.mk (Kd.R_drew (Kd.R_far (p := ⟨bl, ii, none⟩) HI5.out (fun q hq => hq.1) (Value.int .i64 (rd L1 ii - m1))))
            have HX6 := Aside0.mk (blk_drew (blk_far (p := ⟨bl, ii, none⟩) HX5.out (by show wo.heap.size ≠ bl; omega) (Value.int .i64 (rd L1 ii - m1))))
            have HS6 := Aside0.mk (blk_drew (blk_far (p := ⟨bl, ii, none⟩) HS5.out hne1.symm (Value.int .i64 (rd L1 ii - m1))))
            go_wp2
            go_meet
            case rel => exact ⟨by unfold wantF; rw [HM0.out, HI1.out], by rw [HI2.out]; exact HL6, HO6, HI6, HX6, by rw [HI1.out]; exact HS6, HB6⟩
        case rest =>
          obtain ⟨rfl, HL7, HO7, HI7, HX7, HS7, HB7⟩ := hcut
          have hwb : 0 ≤ wantF x L ∧ wantF x L ≤ 20 := by
            have e : instF x L = instOf x.f4 (x.f2 - m0) L1 := by unfold instF; rw [HM0.out, HL1.out]
            unfold wantF
            rw [HM0.out, e]
            omega
          obtain ⟨wn, hwn⟩ := Int.eq_ofNat_of_zero_le hwb.1
          have HWN := Aside0.mk hwn
          rw [hwn] at hwb ⊢
          have hwb2 := hwb.2
          clear hwn hwb hib cx4
          obtain ⟨ln, hln⟩ : ∃ ln, ln = listedF l1 x.f1 sh F wn := ⟨_, rfl⟩
          have hlnw : ln ≤ wn := by rw [hln]; exact listedF_le _ _ _ _ _
          have HLN := Aside0.mk hln
          clear hln
          go_upto_block 2 with (fail)
          go_cut [10] (fun v10 w8 => v10 = .int .i64 wn ∧ Aside0 (LeftAt w8 bl l0.length cap (left2F x L)) ∧ Aside0 (Kd.R k49 49 w8 W1.heap.size (fun q => q ≠ bl ∧ q < wo.heap.size) u4 sh) ∧ Aside0 (Kd.R (Kd.int .i64) 3 w8 W1.heap.size (fun q => q ≠ bl ∧ q < wo.heap.size) (.slice Ai (f2s sh).length ci) (f2s sh)) ∧ Aside0 (w8.heap[wo.heap.size + 1]? = some (.cells #[.int .i64 m0, .int .i64 (instF x L), .int .i64 ln, .int .i64 0] 49 (0, 0))) ∧ Aside0 (Below W1.heap.size W1 w8))
          case first =>
            go_wp2_with (fail)
            go_loopw [80] (fun v80 wi => ∃ m : Nat, m ≤ wn ∧ Aside0 (m = 0 ∨ keptN l1 x.f1 sh F m = true) ∧ Aside0 (LeftAt wi bl l0.length cap (left2F x L)) ∧ Aside0 (Kd.R k49 49 wi W1.heap.size (fun q => q ≠ bl ∧ q < wo.heap.size) u4 sh) ∧ Aside0 (Kd.R (Kd.int .i64) 3 wi W1.heap.size (fun q => q ≠ bl ∧ q < wo.heap.size) (.slice Ai (f2s sh).length ci) (f2s sh)) ∧ Aside0 (wi.heap[wo.heap.size]? = some (.cells #[.int .i64 x.f0, .int .i64 x.f1, .int .i64 x.f2, .int .i64 x.f3, .int .i64 x.f4] 47 (0, 0))) ∧ Aside0 (wi.heap[wo.heap.size + 1]? = some (.cells #[.int .i64 m0, .int .i64 (instF x L), .int .i64 m, .int .i64 0] 49 (0, 0))) ∧ Aside0 (Below W1.heap.size W1 wi)) (fun _ wi => wn - (intOf ((wi.cell? ⟨wo.heap.size + 1, 2, none⟩).getD undef)).toNat)
            case atStart => exact ⟨0, by omega, ⟨Or.inl rfl⟩, HL7, HO7, HI7, HX7, HS7, HB7⟩
            case round =>
              obtain ⟨m, hm, HK, HLI, HOI, HII2, HXI, HSI, HBI⟩ := hrel
              have d2 := (blk_cell HSI.out 2).trans (show _ = some (Value.int .i64 m) from rfl)
              have ff2 := blk_frozen HSI.out 2
              have d6 := (blk_cell HXI.out 1).trans (show _ = some (Value.int .i64 gi) from by rw [← HGI.out]; rfl)
              have d3 := pw_cell_below HBI.out PX0.out
              have d4 := pw_cell_below HBI.out PX1.out
              have d5 := pw_cell_below HBI.out PX2.out
              by_cases hmw : m < wn
              · have hdm : decide ((m : Int) < (wn : Int)) = true := decide_eq_true (by omega)
                have hwm : IntKind.i64.wrap ((m : Int) + 1) = (m : Int) + 1 := by rw [IntKind.wrap_i64]; omega
                have HCi := Aside0.mk (Kd.R_reads' HII2.out).2.2
                have HRF := Aside0.mk (Below.refl wr.heap.size wr)
                obtain ⟨ys, hys⟩ : ∃ ys, ys = f2s sh ++ [(m : Int) + 1] := ⟨_, rfl⟩
                have HYS := Aside0.mk (show wishbookref00_With.f (f2s sh) ((m : Int) + 1) = some ys by rw [hys]; exact With_f _ _ (by rw [f2s_len, HSK.out]; omega))
                have HKQ := Aside0.mk (show wishbookref10_kept.f 2040 l0 l1 l2 gi ys = some (keptN l1 x.f1 sh F (m + 1)) by
                  have h := kept_f l0 l1 l2 (sh ++ [(⟨0, 0, ((m + 1 : Nat) : Int), 0⟩ : S49)]) gi hl6 HOKD.out (by rw [List.length_append, HSK.out]; show k + 1 ≤ _; omega) (by rw [List.length_append, HSK.out]; show k + 1 ≤ _; omega) (snoc_bd (fun s hs => by have := HSB.out s hs; unfold OkShare at this; omega) (by omega)) 2040 (by omega)
                  rw [f2s_snoc, ← HF.out] at h
                  rw [hys, HGI.out]
                  exact h)
                clear hys
                cases hK : keptN l1 x.f1 sh F (m + 1) with
                | true =>
                  rw [hK] at HKQ
                  have HKP := Aside0.mk HKQ.out
                  have HKN := Aside0.mk hK
                  clear hK
                  go_wp2_with (fail)
                  go_region_held3 (fun W => W.cell? ⟨wo.heap.size + 1, 2, none⟩ = some (.int .i64 m) ∧ W.cell? ⟨w.heap.size, 0, none⟩ = some (.slice A0 l0.length c0) ∧ W.cell? ⟨w.heap.size, 1, none⟩ = some (.slice (some ad1) l1.length c1) ∧ W.cell? ⟨w.heap.size, 2, none⟩ = some (.slice A2 l2.length c2) ∧ W.cell? ⟨wo.heap.size, 1, none⟩ = some (.int .i64 gi)) (go_keep)
                  (first
                    | (go_at_call 36; (with_reducible refine (wishbookref00_With.calls Ai ci (f2s sh) ((m : Int) + 1) ys _ (Kd.C_below HCi.out (by repeat (first | (with_reducible exact HRF.out) | apply below_drew | apply pw_below_drewN))) HCI.out HYS.out).mono ?_); rintro e w9 ⟨v9, rfl, hR9, hb9⟩; have d2a := pw_cell_below hb9 (a := ⟨wo.heap.size + 1, 2, none⟩) (v := .int .i64 m) d2; have d3a := pw_cell_below hb9 (a := ⟨w.heap.size, 0, none⟩) (v := .slice A0 l0.length c0) d3; have d4a := pw_cell_below hb9 (a := ⟨w.heap.size, 1, none⟩) (v := .slice (some ad1) l1.length c1) d4; have d5a := pw_cell_below hb9 (a := ⟨w.heap.size, 2, none⟩) (v := .slice A2 l2.length c2) d5; have d6a := pw_cell_below hb9 (a := ⟨wo.heap.size, 1, none⟩) (v := .int .i64 gi) d6; have HB9 := Aside0.mk (below_step (by repeat (first | (with_reducible exact HBI.out) | apply below_drew | apply pw_below_drewN)) hb9); have HB9i := Aside0.mk (below_step (by repeat (first | (with_reducible exact HRF.out) | apply below_drew | apply pw_below_drewN)) hb9); obtain ⟨A9, c9, rfl, hle9, hC9⟩ := Kd.R_reads hR9; have HC9 := Aside0.mk hC9; have HLE9 := Aside0.mk hle9; clear hR9 hC9 hb9 hle9)
                    | (go_at_call 63; (with_reducible refine (wishbookref10_kept.calls 2040 A0 c0 l0 (some ad1) c1 l1 A2 c2 l2 gi A9 c9 ys true _ (Kd.C_below (Kd.C_below H0.out HW1.out) (by repeat (first | (with_reducible exact HB9.out) | apply below_drew | apply pw_below_drewN))) HC.out.1 (Kd.C_below (Kd.C_below H1.out HW1.out) (by repeat (first | (with_reducible exact HB9.out) | apply below_drew | apply pw_below_drewN))) HC.out.2.1 (Kd.C_below (Kd.C_below H2.out HW1.out) (by repeat (first | (with_reducible exact HB9.out) | apply below_drew | apply pw_below_drewN))) HC.out.2.2 HC9.out HLE9.out HKP.out).mono ?_); rintro e w10 ⟨rfl, hb10⟩; have d2b := pw_cell_below hb10 (a := ⟨wo.heap.size + 1, 2, none⟩) (v := .int .i64 m) d2a; have d3b := pw_cell_below hb10 (a := ⟨w.heap.size, 0, none⟩) (v := .slice A0 l0.length c0) d3a; have d4b := pw_cell_below hb10 (a := ⟨w.heap.size, 1, none⟩) (v := .slice (some ad1) l1.length c1) d4a; have d5b := pw_cell_below hb10 (a := ⟨w.heap.size, 2, none⟩) (v := .slice A2 l2.length c2) d5a; have d6b := pw_cell_below hb10 (a := ⟨wo.heap.size, 1, none⟩) (v := .int .i64 gi) d6a; have HB10 := Aside0.mk (below_step (by repeat (first | (with_reducible exact HB9.out) | apply below_drew | apply pw_below_drewN)) hb10); have HB10i := Aside0.mk (below_step (by repeat (first | (with_reducible exact HB9i.out) | apply below_drew | apply pw_below_drewN)) hb10); clear hb10))
                  all_goals
                    have HL10 := Aside0.mk (HLI.out.below HB10i.out)
                    have HO10 := Aside0.mk (Kd.R_below HOI.out HB10i.out)
                    have HI10 := Aside0.mk (Kd.R_below HII2.out HB10i.out)
                    have HX10 := Aside0.mk (blk_below HXI.out HB10i.out)
                    have HS10 := Aside0.mk (blk_below HSI.out HB10i.out)
                    have ff10 := blk_frozen HS10.out 2
                    have HB11 := Aside0.mk (HB10.out.setCell (p := ⟨wo.heap.size + 1, 2, none⟩) (Nat.le_succ_of_le HSB1.out) (Value.int .i64 ((m : Int) + 1)))
                    have HL11 := Aside0.mk (HL10.out.at (Below.heap_setCell w10 ⟨wo.heap.size + 1, 2, none⟩ (Value.int .i64 ((m : Int) + 1)) bl hne1))
                    have HO11 := Aside0.mk (Kd.R_far (p := ⟨wo.heap.size + 1, 2, none⟩) HO10.out (fun q hq => by dsimp only; omega) (Value.int .i64 ((m : Int) + 1)))
                    have HI11 := Aside0.mk (Kd.R_far (p := ⟨wo.heap.size + 1, 2, none⟩) HI10.out (fun q hq => by dsimp only; omega) (Value.int .i64 ((m : Int) + 1)))
                    have HX11 := Aside0.mk (blk_far (p := ⟨wo.heap.size + 1, 2, none⟩) HX10.out (by simp) (Value.int .i64 ((m : Int) + 1)))
                    have HS11 := Aside0.mk (show (w10.setCell ⟨wo.heap.size + 1, 2, none⟩ (Value.int .i64 ((m : Int) + 1))).heap[wo.heap.size + 1]? = some (.cells #[.int .i64 m0, .int .i64 (instF x L), .int .i64 ((m + 1 : Nat) : Int), .int .i64 0] 49 (0, 0)) from blk_put HS10.out 2 _ rfl)
                    have HD11 := Aside0.mk ((blk_cell HS11.out 2).trans (show _ = some (Value.int .i64 ((m + 1 : Nat) : Int)) from rfl))
                    have HD2 := Aside0.mk d2
                    clear hwm d2 d3 d4 d5 d6
                    go_wp2
                    go_roundw
                    case rel => exact ⟨m + 1, by omega, ⟨Or.inr HKN.out⟩, HL11, HO11, HI11, HX11, HS11, HB11⟩
                    case measure =>
                      rw [HD11.out, HD2.out]
                      simp [intOf]
                      omega
                | false =>
                  rw [hK] at HKQ
                  have HKP := Aside0.mk HKQ.out
                  have HKN := Aside0.mk hK
                  clear hK
                  go_wp2_with (fail)
                  go_region_held3 (fun W => W.cell? ⟨wo.heap.size + 1, 2, none⟩ = some (.int .i64 m) ∧ W.cell? ⟨w.heap.size, 0, none⟩ = some (.slice A0 l0.length c0) ∧ W.cell? ⟨w.heap.size, 1, none⟩ = some (.slice (some ad1) l1.length c1) ∧ W.cell? ⟨w.heap.size, 2, none⟩ = some (.slice A2 l2.length c2) ∧ W.cell? ⟨wo.heap.size, 1, none⟩ = some (.int .i64 gi)) (go_keep)
                  (first
                    | (go_at_call 36; (with_reducible refine (wishbookref00_With.calls Ai ci (f2s sh) ((m : Int) + 1) ys _ (Kd.C_below HCi.out (by repeat (first | (with_reducible exact HRF.out) | apply below_drew | apply pw_below_drewN))) HCI.out HYS.out).mono ?_); rintro e w9 ⟨v9, rfl, hR9, hb9⟩; have d2a := pw_cell_below hb9 (a := ⟨wo.heap.size + 1, 2, none⟩) (v := .int .i64 m) d2; have d3a := pw_cell_below hb9 (a := ⟨w.heap.size, 0, none⟩) (v := .slice A0 l0.length c0) d3; have d4a := pw_cell_below hb9 (a := ⟨w.heap.size, 1, none⟩) (v := .slice (some ad1) l1.length c1) d4; have d5a := pw_cell_below hb9 (a := ⟨w.heap.size, 2, none⟩) (v := .slice A2 l2.length c2) d5; have d6a := pw_cell_below hb9 (a := ⟨wo.heap.size, 1, none⟩) (v := .int .i64 gi) d6; have HB9 := Aside0.mk (below_step (by repeat (first | (with_reducible exact HBI.out) | apply below_drew | apply pw_below_drewN)) hb9); have HB9i := Aside0.mk (below_step (by repeat (first | (with_reducible exact HRF.out) | apply below_drew | apply pw_below_drewN)) hb9); obtain ⟨A9, c9, rfl, hle9, hC9⟩ := Kd.R_reads hR9; have HC9 := Aside0.mk hC9; have HLE9 := Aside0.mk hle9; clear hR9 hC9 hb9 hle9)
                    | (go_at_call 63; (with_reducible refine (wishbookref10_kept.calls 2040 A0 c0 l0 (some ad1) c1 l1 A2 c2 l2 gi A9 c9 ys false _ (Kd.C_below (Kd.C_below H0.out HW1.out) (by repeat (first | (with_reducible exact HB9.out) | apply below_drew | apply pw_below_drewN))) HC.out.1 (Kd.C_below (Kd.C_below H1.out HW1.out) (by repeat (first | (with_reducible exact HB9.out) | apply below_drew | apply pw_below_drewN))) HC.out.2.1 (Kd.C_below (Kd.C_below H2.out HW1.out) (by repeat (first | (with_reducible exact HB9.out) | apply below_drew | apply pw_below_drewN))) HC.out.2.2 HC9.out HLE9.out HKP.out).mono ?_); rintro e w10 ⟨rfl, hb10⟩; have d2b := pw_cell_below hb10 (a := ⟨wo.heap.size + 1, 2, none⟩) (v := .int .i64 m) d2a; have d3b := pw_cell_below hb10 (a := ⟨w.heap.size, 0, none⟩) (v := .slice A0 l0.length c0) d3a; have d4b := pw_cell_below hb10 (a := ⟨w.heap.size, 1, none⟩) (v := .slice (some ad1) l1.length c1) d4a; have d5b := pw_cell_below hb10 (a := ⟨w.heap.size, 2, none⟩) (v := .slice A2 l2.length c2) d5a; have d6b := pw_cell_below hb10 (a := ⟨wo.heap.size, 1, none⟩) (v := .int .i64 gi) d6a; have HB10 := Aside0.mk (below_step (by repeat (first | (with_reducible exact HB9.out) | apply below_drew | apply pw_below_drewN)) hb10); have HB10i := Aside0.mk (below_step (by repeat (first | (with_reducible exact HB9i.out) | apply below_drew | apply pw_below_drewN)) hb10); clear hb10))
                  all_goals
                    have HL10 := Aside0.mk (HLI.out.below HB10i.out)
                    have HO10 := Aside0.mk (Kd.R_below HOI.out HB10i.out)
                    have HI10 := Aside0.mk (Kd.R_below HII2.out HB10i.out)
                    have HX10 := Aside0.mk (blk_below HXI.out HB10i.out)
                    have HS10 := Aside0.mk (blk_below HSI.out HB10i.out)
                    have ff10 := blk_frozen HS10.out 2
                    have HE : Aside0 (ln = m) := ⟨by rw [HLN.out]; exact listedF_stop HK.out HKN.out wn (by omega)⟩
                    go_wp2
                    go_meet
                    case rel => exact ⟨rfl, HL10, HO10, HI10, by rw [HE.out]; exact HS10, HB10⟩
              · obtain rfl : m = wn := by omega
                have hdm : decide ((m : Int) < (m : Int)) = false := decide_eq_false (by omega)
                have HE : Aside0 (ln = m) := ⟨by rw [HLN.out]; exact listedF_all HK.out⟩
                go_wp2_with (fail)
                go_quiet (fail)
                go_wp2
                go_meet
                case rel => exact ⟨rfl, ⟨HLI.out.at rfl⟩, ⟨Kd.R_drewN HOI.out _⟩, ⟨Kd.R_drewN HII2.out _⟩, by rw [HE.out]; exact ⟨blk_drewN HSI.out _⟩, ⟨pw_below_drewN HBI.out _⟩⟩
          case rest =>
            obtain ⟨rfl, HL8, HO8, HI8, HS8, HB8⟩ := hcut
            have d2 := (blk_cell HS8.out 2).trans (show _ = some (Value.int .i64 ln) from rfl)
            have d3 := (blk_cell HS8.out 3).trans (show _ = some (Value.int .i64 0) from rfl)
            have ff3 := blk_frozen HS8.out 3
            have w1 : IntKind.i64.wrap ((wn : Int) - (ln : Int)) = (wn : Int) - (ln : Int) := by rw [IntKind.wrap_i64]; omega
            go_upto_region 18 with (fail)
            have HB11 := Aside0.mk (HB8.out.setCell (p := ⟨wo.heap.size + 1, 3, none⟩) (Nat.le_succ_of_le HSB1.out) (Value.int .i64 ((wn : Int) - (ln : Int))))
            have HL11 := Aside0.mk (HL8.out.at (Below.heap_setCell wc ⟨wo.heap.size + 1, 3, none⟩ (Value.int .i64 ((wn : Int) - (ln : Int))) bl hne1))
            have HO11 := Aside0.mk (Kd.R_far (p := ⟨wo.heap.size + 1, 3, none⟩) HO8.out (fun q hq => by dsimp only; omega) (Value.int .i64 ((wn : Int) - (ln : Int))))
            have HI11 := Aside0.mk (Kd.R_mono (ok' := fun q => q ≠ bl ∧ q ≠ wo.heap.size + 1) (Kd.R_far (p := ⟨wo.heap.size + 1, 3, none⟩) HI8.out (fun q hq => by dsimp only; omega) (Value.int .i64 ((wn : Int) - (ln : Int)))) (fun q hq => ⟨hq.1, by omega⟩))
            have HS11 := Aside0.mk (show (wc.setCell ⟨wo.heap.size + 1, 3, none⟩ (Value.int .i64 ((wn : Int) - (ln : Int)))).heap[wo.heap.size + 1]? = some (.cells #[.int .i64 m0, .int .i64 (instF x L), .int .i64 ln, .int .i64 ((wn : Int) - (ln : Int))] 49 (0, 0)) from blk_put HS8.out 3 _ rfl)
            clear d2 d3 ff3 w1 HL8 HO8 HI8 HS8 HB8
            generalize wc.setCell ⟨wo.heap.size + 1, 3, none⟩ (Value.int .i64 ((wn : Int) - (ln : Int))) = W8 at HB11 HL11 HO11 HI11 HS11 ⊢
            have d2 := (blk_cell HS11.out 2).trans (show _ = some (Value.int .i64 ln) from rfl)
            have HSZ := Aside0.mk (blk_lt HS11.out)
            have HLZ := Aside0.mk HL11.out.lt
            have HBX := Aside0.mk (below_alloc (Below.refl W8.heap.size W8) (Obj.cells #[Value.int .i64 ln] 3))
            have HLEN := Aside0.mk (show (f2s sh).length = k by rw [f2s_len, HSK.out])
            have hsz := HSZ.out
            have hlz := HLZ.out
            clear hlz hsz
            go_upto_region 19 with ((at_builtin; go_must (refine Kd.R_append (Kd.int .i64) (w0 := W1) W1.heap.size rfl (.tmp 104) (.tmp 107) 22 3 (.int .i64 0) 8 rfl Tryd.underlying22 info3 rfl (by decide) (by omega) _ (f2s sh) (ln : Int) [.int .i64 (ln : Int)] (fun q => q ≠ bl ∧ q ≠ wo.heap.size + 1) (fun _ => False) rfl rfl ?aP (fun _ hk => hk.elim) ?aF ?aO ?aB ?aS ?aL ?_; (case aP => exact rfl); (case aB => exact HB11.out); (case aF => exact (fun q hq => by have e1 := HSZ.out; have e2 := HLZ.out; have e3 : W8.heap.size ≤ q := hq; exact ⟨by omega, by omega⟩)); (case aO => exact HI11.out); (case aS => exact below_size HB11.out); (case aL => have := HLEN.out; omega); intro v12 w12 ho12 hb12 hg12 hat12; have HI12 := Aside0.mk ho12; have HB12 := Aside0.mk hb12; have HG12 := Aside0.mk hg12; clear ho12 hb12 hg12 hat12)))
            have HL12 := Aside0.mk (HL11.out.at (HG12.out.block bl HLZ.out (fun h => (HI11.out.1 bl h.symm).1 rfl)))
            have HS12 := Aside0.mk (blk_grown HS11.out HG12.out (fun h => (HI11.out.1 _ h.symm).2 rfl))
            have HO12 := Aside0.mk (R_two rfl rfl (by decide) HO11.out HI11.out HG12.out)
            have hal := HS12.out
            have c0_ := (blk_cell hal 0).trans (show _ = some (Value.int .i64 m0) from rfl)
            have c1_ := (blk_cell hal 1).trans (show _ = some (Value.int .i64 (instF x L)) from rfl)
            have c2_ := (blk_cell hal 2).trans (show _ = some (Value.int .i64 ln) from rfl)
            have c3_ := (blk_cell hal 3).trans (show _ = some (Value.int .i64 ((wn : Int) - (ln : Int))) from rfl)
            clear hal d2
            go_wp2_with ((at_builtin; go_must (refine Kd.R_append k49 (w0 := W1) W1.heap.size rfl (.tmp 109) (.tmp 111) 42 49 (.agg #[.int .i64 0, .int .i64 0, .int .i64 0, .int .i64 0]) 32 rfl Tryd.underlying42 info49 (by kernel_rfl) (by decide) (by omega) _ sh ⟨m0, instF x L, (ln : Int), (wn : Int) - (ln : Int)⟩ [.int .i64 m0, .int .i64 (instF x L), .int .i64 (ln : Int), .int .i64 ((wn : Int) - (ln : Int))] (fun _ => True) (fun _ => False) rfl rfl ?aP (fun _ hk => hk.elim) ?aF ?aO ?aB ?aS ?aL ?_; (case aP => exact k49_mkM _ _ _ _); (case aB => exact HB12.out); (case aF => exact (fun _ _ => trivial)); (case aO => exact Kd.R_mono HO12.out (fun _ _ => trivial)); (case aS => exact below_size HB12.out); (case aL => have := HSK.out; omega); intro v13 w13 ho13 hb13 hg13 hat13; have HO13 := Aside0.mk ho13; have HB13 := Aside0.mk hb13; have HG13 := Aside0.mk hg13; clear ho13 hb13 hg13 hat13)))
            have HL13 := Aside0.mk (HL12.out.at (HG13.out.block bl HL12.out.lt (fun h => by
              obtain ⟨c, hc⟩ := R_own rfl HO12.out h.symm
              obtain ⟨cur, hb', -⟩ := HL12.out
              rw [hc] at hb'
              injection hb' with hb'
              injection hb' with _ h3
              exact absurd h3 (by decide))))
            have HI13 := Aside0.mk (Kd.R_mono (R_two rfl rfl (by decide) HI12.out HO12.out HG13.out) (ok' := fun q => q ≠ bl) (fun _ h => h.1))
            have HSH := Aside0.mk (show serveF l1 F (k + 1) 0 (left0 l0, []) = (left2F x L, sh ++ [⟨m0, instF x L, (ln : Int), (wn : Int) - (ln : Int)⟩]) by rw [HSTEP.out, HLN.out]; unfold shareF; rw [HM0.out, HWN.out, Int.toNat_natCast])
            go_roundw
            case rel => exact ⟨k + 1, by omega, by go_num, by rw [HSH.out]; exact HL13, by rw [HSH.out]; exact HO13, by rw [HSH.out]; unfold f2s at HI13 ⊢; rw [List.map_append]; exact HI13, HB13⟩
            case measure => simp [intOf]; omega
      · obtain rfl : k = l1.length := by omega
        have y1 := pw_cell_below HB.out PX1.out
        go_wp2
        refine bodyPost_ret (results_tmp2 rfl _ _ _) rfl ?_
        have h5 := (HSV.out l1.length (Nat.le_refl _)).1
        exact ⟨_, _, rfl, Kd.R_lower HO.out (below_size HW1.out), HL.out.R (by rw [h5]; exact hn5) (Nat.le_trans (below_size HW1.out) HBL.out) _ trivial, below_step HW1.out HB.out⟩
end Go.Proofs.YtegpepnmnlockaaDoor.PL
namespace Go.Proofs.YtegpepnmnlockaaDoor.PL
open Go.RowKit Go.Proofs.YtegpepnmnlockaaDoorW.PrintWords Go.Proofs.YtegpepnmnlockaaDoorW.PrintLast Go.Proofs.YtegpepnmnlockaaDoorW.PrintMore
set_option linter.unusedVariables false
set_option linter.unusedSimpArgs false
def lineR (n : Int) (x : S47) : Bool := wthB x.f0 0 9 && wthB x.f1 0 (n - 1) && wthB x.f2 1 20 && wthB x.f3 0 100 && (x.f4 == -1 || wthB x.f4 0 (n - 1) && x.f4 != x.f1)
theorem lineR_eq (n : Int) (x : S47) : lineR n x = lineB n x := by
  rw [← lineB_ok, Bool.eq_iff_iff, decide_eq_true_iff]
  simp only [lineR, wthB, okLine, Bool.and_eq_true, Bool.or_eq_true, decide_eq_true_eq, beq_iff_eq, bne_iff_ne, ne_eq]
  constructor
  · rintro ⟨⟨⟨⟨a, b⟩, c⟩, d⟩, e⟩
    refine ⟨a, b, c, d, ?_⟩
    rcases e with e | ⟨e, f⟩
    · exact ⟨⟨by omega, by omega⟩, by omega⟩
    · exact ⟨⟨by omega, by omega⟩, f⟩
  · rintro ⟨a, b, c, d, e, f⟩
    refine ⟨⟨⟨⟨a, b⟩, c⟩, d⟩, ?_⟩
    by_cases g : x.f4 = -1
    · exact Or.inl g
    · exact Or.inr ⟨⟨by omega, by omega⟩, f⟩
theorem tween_any (a b c : Int) (w : World) : Calls Tryd.prog 34 #[.int .i64 a, .int .i64 b, .int .i64 c] w fun e w' => e = .returned (.bool (wthB a b c)) ∧ Drawn0 w w' :=
  wishbookref00_Tween.calls a b c _ w (by unfold wishbookref00_Tween.f wthB; by_cases h : b ≤ a <;> simp [h])
theorem proper_any (x : S55) (c d : Int) (w : World) : Calls Tryd.prog 65 #[.agg #[.int .i64 x.f0, .int .i64 x.f1], .int .i64 c, .int .i64 d] w fun e w' => e = .returned (.bool (spnB x c d)) ∧ Below w.heap.size w w' :=
  wishbookref00_Proper.calls x.f0 x.f1 c d _ w (by unfold wishbookref00_Proper.f spnB; by_cases h : c ≤ x.f0 <;> by_cases h2 : x.f0 ≤ x.f1 <;> simp [h, h2])
theorem good_any (A0 A1 A2 : Option Addr) (c0 c1 c2 : Nat) (l0 : List Int) (l1 : List S47) (l2 : List S57) (a : Int) (w : World)
    (h0 : Kd.C (Kd.int .i64) w A0 l0.length l0) (hc0 : l0.length ≤ c0) (h1 : Kd.C k47 w A1 l1.length l1) (hc1 : l1.length ≤ c1) (h2 : Kd.C k57 w A2 l2.length l2) (hc2 : l2.length ≤ c2) (hf : (l0.length : Int) < 9000000000000000000) :
    Calls Tryd.prog 71 #[.agg #[.slice A0 l0.length c0, .slice A1 l1.length c1, .slice A2 l2.length c2], .int .i64 a] w fun e w' => e = .returned (.bool (wthB a 0 ((l0.length : Int) - 1))) ∧ Below w.heap.size w w' :=
  wishbookref10_isGood.calls A0 c0 l0 A1 c1 l1 A2 c2 l2 a _ w h0 hc0 h1 hc1 h2 hc2 (by
    unfold wishbookref10_isGood.f wishbookref00_Tween.f wthB
    rw [wrap_pred hf]
    by_cases h : (0 : Int) ≤ a <;> simp [h])
theorem chkS_false (l0 : List Int) (b : Bool) : ∀ (d i : Nat), chkS l0 b i = false → chkS l0 b (i + d) = false
  | 0, i, h => h
  | d + 1, i, h => by rw [Nat.add_succ, chkS, chkS_false l0 b d i h]; rfl
theorem chkL_false (n : Int) (l : List S47) (b : Bool) : ∀ (d i : Nat), chkL n l b i = false → chkL n l b (i + d) = false
  | 0, i, h => h
  | d + 1, i, h => by rw [Nat.add_succ, chkL, chkL_false n l b d i h]; rfl
theorem chkD_false (n : Int) (l : List S57) (b : Bool) : ∀ (d i : Nat), chkD n l b i = false → chkD n l b (i + d) = false
  | 0, i, h => h
  | d + 1, i, h => by rw [Nat.add_succ, chkD, chkD_false n l b d i h]; rfl
/-- What the reference's Check says. -/
def wishbookref10_Check.f (l0 : List Int) (l1 : List S47) (l2 : List S57) : Option Int := if Few l0 l1 l2 then some (chkV (okB l0 l1 l2)) else none
set_option maxHeartbeats 8000000 in
set_option maxRecDepth 100000 in
theorem RCheck_walk (A0 A1 A2 : Option Addr) (c0 c1 c2 : Nat) (l0 : List Int) (l1 : List S47) (l2 : List S57) (w : World)
    (h0 : Kd.C (Kd.int .i64) w A0 l0.length l0) (hc0 : l0.length ≤ c0) (h1 : Kd.C k47 w A1 l1.length l1) (hc1 : l1.length ≤ c1) (h2 : Kd.C k57 w A2 l2.length l2) (hc2 : l2.length ≤ c2)
    (hf0 : (l0.length : Int) < 9000000000000000000) (hf1 : (l1.length : Int) < 9000000000000000000) (hf2 : (l2.length : Int) < 9000000000000000000) :
    Calls Tryd.prog 47 #[.agg #[.slice A0 l0.length c0, .slice A1 l1.length c1, .slice A2 l2.length c2]] w fun e w' => e = .returned (.int .i64 (chkV (chkD l0.length l2 (chkL l0.length l1 (chkS l0 (lenB l0 l1 l2) l0.length) l1.length) l2.length))) ∧ Below w.heap.size w w' := by
  have H0 := Aside0.mk h0
  have H1 := Aside0.mk h1
  have H2 := Aside0.mk h2
  have HC0 := Aside0.mk hc0
  have HC1 := Aside0.mk hc1
  have HC2 := Aside0.mk hc2
  have F0 := Aside0.mk hf0
  have F1 := Aside0.mk hf1
  have F2 := Aside0.mk hf2
  clear h0 h1 h2 hc0 hc1 hc2 hf0 hf1 hf2
  have hu26 := Tryd.underlying26
  have HW1 := Aside0.mk (below_alloc (Below.refl w.heap.size w) (.cells #[.slice A0 l0.length c0, .slice A1 l1.length c1, .slice A2 l2.length c2] 26))
  have HX := Aside0.mk (heap_alloc_new w (.cells #[.slice A0 l0.length c0, .slice A1 l1.length c1, .slice A2 l2.length c2] 26))
  go_enter Tryd.func47, Tryd.ntmps47
  go_upto_region 1 with (fail)
  generalize w.alloc (Obj.cells #[Value.slice A0 l0.length c0, .slice A1 l1.length c1, .slice A2 l2.length c2] 26) = W1 at HW1 HX ⊢
  have PX0 := Aside0.mk ((blk_cell HX.out 0).trans (show _ = some (Value.slice A0 l0.length c0) from rfl))
  have PX1 := Aside0.mk ((blk_cell HX.out 1).trans (show _ = some (Value.slice A1 l1.length c1) from rfl))
  have PX2 := Aside0.mk ((blk_cell HX.out 2).trans (show _ = some (Value.slice A2 l2.length c2) from rfl))
  have q0 := PX0.out
  have q1 := PX1.out
  have q2 := PX2.out
  go_cut [3] (fun v3 wc => v3 = .bool (lenB l0 l1 l2) ∧ Aside0 (Below W1.heap.size W1 wc))
  case first =>
    go_wp2_with ((go_at_call 34; (with_reducible refine (tween_any _ _ _ _).mono ?_); rintro e w2 ⟨rfl, ⟨nd, rfl⟩⟩))
    all_goals
      go_meet
      case rel => exact ⟨by unfold lenB; simp [*], ⟨by repeat (first | exact Below.refl _ _ | apply below_drew | apply pw_below_drewN)⟩⟩
  case rest =>
    obtain ⟨rfl, HB⟩ := hcut
    clear q0 q1 q2
    obtain ⟨b0, hb0⟩ : ∃ b, b = lenB l0 l1 l2 := ⟨_, rfl⟩
    rw [← hb0]
    have G0 := Aside0.mk hb0
    clear hb0
    go_upto_block 0 with (fail)
    go_cut [3] (fun v3 wd => v3 = .bool (chkS l0 b0 l0.length) ∧ Aside0 (Below W1.heap.size W1 wd))
    case first =>
      go_wp2_with (fail)
      go_loopw [3, 4] (fun v3 v4 wr => ∃ i : Nat, i ≤ l0.length ∧ v4 = .int .i64 i ∧ v3 = .bool (chkS l0 b0 i) ∧ Aside0 (Below W1.heap.size W1 wr)) (fun _ i _ => l0.length - (intOf i).toNat)
      case atStart => exact ⟨0, by omega, rfl, rfl, HB⟩
      case round =>
        obtain ⟨i, hi, rfl, rfl, HC⟩ := hrel
        have q0 := pw_cell_below HC.out PX0.out
        have HS := Aside0.mk (show chkS l0 b0 (i + 1) = (chkS l0 b0 i && wthB (rd l0 (i : Nat)) 0 50) from rfl)
        cases hb : chkS l0 b0 i with
        | false =>
          have HV := Aside0.mk (show chkS l0 b0 l0.length = false by have := chkS_false l0 b0 (l0.length - i) i hb; rwa [show i + (l0.length - i) = l0.length by omega] at this)
          clear hb
          go_wp2
          go_meet
          case rel => exact ⟨by rw [HV.out], HC⟩
        | true =>
          rw [hb, Bool.true_and] at HS
          by_cases hil : i < l0.length
          · clear hb
            obtain ⟨ad, e, k0⟩ := Kd.at_int (Kd.C_below (Kd.C_below H0.out HW1.out) HC.out) i (by omega) (by omega)
            cases e
            simp only [Int.toNat_natCast] at k0
            have hwi : IntKind.i64.wrap ((i : Int) + 1) = (i : Int) + 1 := by have := F0.out; rw [IntKind.wrap_i64]; omega
            have hd : decide ((i : Int) < (l0.length : Int)) = true := decide_eq_true (by omega)
            go_wp2_with ((go_at_call 34; (with_reducible refine (tween_any _ _ _ _).mono ?_); rintro e w2 ⟨rfl, ⟨nd, rfl⟩⟩))
            go_roundw
            case rel => exact ⟨i + 1, by omega, by go_num, by rw [HS.out], ⟨by repeat (first | (with_reducible exact HC.out) | apply below_drew | apply pw_below_drewN)⟩⟩
            case measure => simp [intOf]; omega
          · obtain rfl : i = l0.length := by omega
            have HV := Aside0.mk hb
            clear hb
            have hd : decide ((l0.length : Int) < (l0.length : Int)) = false := decide_eq_false (by omega)
            go_wp2
            go_meet
            case rel => exact ⟨by rw [HV.out], HC⟩
    case rest =>
      obtain ⟨rfl, HD⟩ := hcut
      obtain ⟨b1, hb1⟩ : ∃ b, b = chkS l0 b0 l0.length := ⟨_, rfl⟩
      rw [← hb1]
      have G1 := Aside0.mk hb1
      clear hb1
      go_upto_block 2 with (fail)
      go_cut [3] (fun v3 wd => v3 = .bool (chkL l0.length l1 b1 l1.length) ∧ Aside0 (Below W1.heap.size W1 wd))
      case first =>
        go_wp2_with (fail)
        go_loopw [3, 5] (fun v3 v4 wr => ∃ i : Nat, i ≤ l1.length ∧ v4 = .int .i64 i ∧ v3 = .bool (chkL l0.length l1 b1 i) ∧ Aside0 (Below W1.heap.size W1 wr)) (fun _ i _ => l1.length - (intOf i).toNat)
        case atStart => exact ⟨0, by omega, rfl, rfl, HD⟩
        case round =>
          obtain ⟨i, hi, rfl, rfl, HC⟩ := hrel
          have q0 := pw_cell_below HC.out PX1.out
          have HS := Aside0.mk (show chkL l0.length l1 b1 (i + 1) = (chkL l0.length l1 b1 i && lineR l0.length (rd_T47 l1 (i : Nat))) from by rw [lineR_eq]; rfl)
          cases hb : chkL l0.length l1 b1 i with
          | false =>
            have HV := Aside0.mk (show chkL l0.length l1 b1 l1.length = false by have := chkL_false _ _ _ (l1.length - i) i hb; rwa [show i + (l1.length - i) = l1.length by omega] at this)
            clear hb
            go_wp2
            go_meet
            case rel => exact ⟨by rw [HV.out], HC⟩
          | true =>
            rw [hb, Bool.true_and] at HS
            by_cases hil : i < l1.length
            · clear hb
              obtain ⟨ad, e, k0, k1, k2, k3, k4⟩ := at_T47 (Kd.C_below (Kd.C_below H1.out HW1.out) HC.out) i (by omega) (by omega)
              cases e
              simp only [Int.toNat_natCast] at k0 k1 k2 k3 k4
              have hwi : IntKind.i64.wrap ((i : Int) + 1) = (i : Int) + 1 := by have := F1.out; rw [IntKind.wrap_i64]; omega
              have hd : decide ((i : Int) < (l1.length : Int)) = true := decide_eq_true (by omega)
              have HXA := heap_alloc_new wr (.cells #[.int .i64 (rd_T47 l1 i).f0, .int .i64 (rd_T47 l1 i).f1, .int .i64 (rd_T47 l1 i).f2, .int .i64 (rd_T47 l1 i).f3, .int .i64 (rd_T47 l1 i).f4] 47)
              have HEA := Aside0.mk (below_alloc HC.out (.cells #[.int .i64 (rd_T47 l1 i).f0, .int .i64 (rd_T47 l1 i).f1, .int .i64 (rd_T47 l1 i).f2, .int .i64 (rd_T47 l1 i).f3, .int .i64 (rd_T47 l1 i).f4] 47))
              go_upto_region 10 with (fail)
              generalize wr.alloc (.cells #[.int .i64 (rd_T47 l1 i).f0, .int .i64 (rd_T47 l1 i).f1, .int .i64 (rd_T47 l1 i).f2, .int .i64 (rd_T47 l1 i).f3, .int .i64 (rd_T47 l1 i).f4] 47) = W8 at HXA HEA ⊢
              clear k0 k1 k2 k3 k4 q0
              have m0 := (blk_cell HXA 0).trans (show _ = some (Value.int .i64 (rd_T47 l1 i).f0) from rfl)
              have m1 := (blk_cell HXA 1).trans (show _ = some (Value.int .i64 (rd_T47 l1 i).f1) from rfl)
              have m2 := (blk_cell HXA 2).trans (show _ = some (Value.int .i64 (rd_T47 l1 i).f2) from rfl)
              have m3 := (blk_cell HXA 3).trans (show _ = some (Value.int .i64 (rd_T47 l1 i).f3) from rfl)
              have m4 := (blk_cell HXA 4).trans (show _ = some (Value.int .i64 (rd_T47 l1 i).f4) from rfl)
              clear HXA
              have y0 := pw_cell_below HEA.out PX0.out
              have y1 := pw_cell_below HEA.out PX1.out
              have y2 := pw_cell_below HEA.out PX2.out
              go_wp2_with (first | (go_at_call 34; (with_reducible refine (tween_any _ _ _ _).mono ?_); rintro e w2 ⟨rfl, ⟨nd, rfl⟩⟩) | (go_at_call 71; (with_reducible refine (good_any _ _ _ c0 c1 c2 l0 l1 l2 _ _ (Kd.C_below (Kd.C_below H0.out HW1.out) (by repeat (first | (with_reducible exact HEA.out) | apply below_drew | apply pw_below_drewN))) HC0.out (Kd.C_below (Kd.C_below H1.out HW1.out) (by repeat (first | (with_reducible exact HEA.out) | apply below_drew | apply pw_below_drewN))) HC1.out (Kd.C_below (Kd.C_below H2.out HW1.out) (by repeat (first | (with_reducible exact HEA.out) | apply below_drew | apply pw_below_drewN))) HC2.out F0.out).mono ?_); rintro e w3 ⟨rfl, hb3⟩; have m1 := pw_cell_below hb3 (a := ⟨wr.heap.size, 1, none⟩) (v := .int .i64 (rd_T47 l1 i).f1) (by simpa using m1); have m2 := pw_cell_below hb3 (a := ⟨wr.heap.size, 2, none⟩) (v := .int .i64 (rd_T47 l1 i).f2) (by simpa using m2); have m3 := pw_cell_below hb3 (a := ⟨wr.heap.size, 3, none⟩) (v := .int .i64 (rd_T47 l1 i).f3) (by simpa using m3); have m4 := pw_cell_below hb3 (a := ⟨wr.heap.size, 4, none⟩) (v := .int .i64 (rd_T47 l1 i).f4) (by simpa using m4); have y0 := pw_cell_below hb3 (a := ⟨w.heap.size, 0, none⟩) (v := .slice A0 l0.length c0) (by simpa using y0); have y1 := pw_cell_below hb3 (a := ⟨w.heap.size, 1, none⟩) (v := .slice (some ad) l1.length c1) (by simpa using y1); have y2 := pw_cell_below hb3 (a := ⟨w.heap.size, 2, none⟩) (v := .slice A2 l2.length c2) (by simpa using y2); have HEA := Aside0.mk (below_step (by repeat (first | (with_reducible exact HEA.out) | apply below_drew | apply pw_below_drewN)) hb3); clear hb3))
              all_goals
                go_roundw
                case rel => exact ⟨i + 1, by omega, by go_num, by rw [HS.out]; unfold lineR; simp [*], ⟨by repeat (first | (with_reducible exact HEA.out) | apply below_alloc | apply below_drew | apply pw_below_drewN)⟩⟩
                case measure => simp [intOf]; omega
            · obtain rfl : i = l1.length := by omega
              have HV := Aside0.mk hb
              clear hb
              have hd : decide ((l1.length : Int) < (l1.length : Int)) = false := decide_eq_false (by omega)
              go_wp2
              go_meet
              case rel => exact ⟨by rw [HV.out], HC⟩
      case rest =>
        obtain ⟨rfl, HD⟩ := hcut
        obtain ⟨b2, hb2⟩ : ∃ b, b = chkL l0.length l1 b1 l1.length := ⟨_, rfl⟩
        rw [← hb2]
        have G2 := Aside0.mk hb2
        clear hb2
        go_upto_block 4 with (fail)
        go_cut [3] (fun v3 wd => v3 = .bool (chkD l0.length l2 b2 l2.length) ∧ Aside0 (Below W1.heap.size W1 wd))
        case first =>
          go_wp2_with (fail)
          go_loopw [3, 7] (fun v3 v4 wr => ∃ i : Nat, i ≤ l2.length ∧ v4 = .int .i64 i ∧ v3 = .bool (chkD l0.length l2 b2 i) ∧ Aside0 (Below W1.heap.size W1 wr)) (fun _ i _ => l2.length - (intOf i).toNat)
          case atStart => exact ⟨0, by omega, rfl, rfl, HD⟩
          case round =>
            obtain ⟨i, hi, rfl, rfl, HC⟩ := hrel
            have q0 := pw_cell_below HC.out PX2.out
            have HS := Aside0.mk (show chkD l0.length l2 b2 (i + 1) = (chkD l0.length l2 b2 i && delB l0.length (rd_T57 l2 (i : Nat))) from rfl)
            cases hb : chkD l0.length l2 b2 i with
            | false =>
              have HV := Aside0.mk (show chkD l0.length l2 b2 l2.length = false by have := chkD_false _ _ _ (l2.length - i) i hb; rwa [show i + (l2.length - i) = l2.length by omega] at this)
              clear hb
              go_wp2
              go_meet
              case rel => exact ⟨by rw [HV.out], HC⟩
            | true =>
              rw [hb, Bool.true_and] at HS
              by_cases hil : i < l2.length
              · clear hb
                obtain ⟨ad, e, k0, k1, k2, k3, k4⟩ := at_T57 (Kd.C_below (Kd.C_below H2.out HW1.out) HC.out) i (by omega) (by omega)
                cases e
                simp only [Int.toNat_natCast] at k0 k1 k2 k3 k4
                have hwi : IntKind.i64.wrap ((i : Int) + 1) = (i : Int) + 1 := by have := F2.out; rw [IntKind.wrap_i64]; omega
                have hd : decide ((i : Int) < (l2.length : Int)) = true := decide_eq_true (by omega)
                have HXA := heap_alloc_new wr (.cells #[.int .i64 (rd_T57 l2 i).f0, .int .i64 (rd_T57 l2 i).f1.f0, .int .i64 (rd_T57 l2 i).f1.f1, .int .i64 (rd_T57 l2 i).f2.f0, .int .i64 (rd_T57 l2 i).f2.f1] 57)
                have HEA := Aside0.mk (below_alloc HC.out (.cells #[.int .i64 (rd_T57 l2 i).f0, .int .i64 (rd_T57 l2 i).f1.f0, .int .i64 (rd_T57 l2 i).f1.f1, .int .i64 (rd_T57 l2 i).f2.f0, .int .i64 (rd_T57 l2 i).f2.f1] 57))
                go_upto_region 15 with (fail)
                generalize wr.alloc (.cells #[.int .i64 (rd_T57 l2 i).f0, .int .i64 (rd_T57 l2 i).f1.f0, .int .i64 (rd_T57 l2 i).f1.f1, .int .i64 (rd_T57 l2 i).f2.f0, .int .i64 (rd_T57 l2 i).f2.f1] 57) = W8 at HXA HEA ⊢
                clear k0 k1 k2 k3 k4 q0
                have m0 := (blk_cell HXA 0).trans (show _ = some (Value.int .i64 (rd_T57 l2 i).f0) from rfl)
                have m1 := (blk_cell HXA 1).trans (show _ = some (Value.int .i64 (rd_T57 l2 i).f1.f0) from rfl)
                have m2 := (blk_cell HXA 2).trans (show _ = some (Value.int .i64 (rd_T57 l2 i).f1.f1) from rfl)
                have m3 := (blk_cell HXA 3).trans (show _ = some (Value.int .i64 (rd_T57 l2 i).f2.f0) from rfl)
                have m4 := (blk_cell HXA 4).trans (show _ = some (Value.int .i64 (rd_T57 l2 i).f2.f1) from rfl)
                clear HXA
                have y0 := pw_cell_below HEA.out PX0.out
                have y1 := pw_cell_below HEA.out PX1.out
                have y2 := pw_cell_below HEA.out PX2.out
                go_wp2_with (first | (go_at_call 65; (with_reducible first | (refine (proper_any (rd_T57 l2 i).f1 _ _ _).mono ?_) | (refine (proper_any (rd_T57 l2 i).f2 _ _ _).mono ?_)); rintro e w3 ⟨rfl, hb3⟩; have m3 := pw_cell_below hb3 (a := ⟨wr.heap.size, 3, none⟩) (v := .int .i64 (rd_T57 l2 i).f2.f0) (by simpa using m3); have m4 := pw_cell_below hb3 (a := ⟨wr.heap.size, 4, none⟩) (v := .int .i64 (rd_T57 l2 i).f2.f1) (by simpa using m4); have HEA := Aside0.mk (below_step (by repeat (first | (with_reducible exact HEA.out) | apply below_drew | apply pw_below_drewN)) hb3); clear hb3) | (go_at_call 71; (with_reducible refine (good_any _ _ _ c0 c1 c2 l0 l1 l2 _ _ (Kd.C_below (Kd.C_below H0.out HW1.out) (by repeat (first | (with_reducible exact HEA.out) | apply below_drew | apply pw_below_drewN))) HC0.out (Kd.C_below (Kd.C_below H1.out HW1.out) (by repeat (first | (with_reducible exact HEA.out) | apply below_drew | apply pw_below_drewN))) HC1.out (Kd.C_below (Kd.C_below H2.out HW1.out) (by repeat (first | (with_reducible exact HEA.out) | apply below_drew | apply pw_below_drewN))) HC2.out F0.out).mono ?_); rintro e w3 ⟨rfl, hb3⟩; have m1 := pw_cell_below hb3 (a := ⟨wr.heap.size, 1, none⟩) (v := .int .i64 (rd_T57 l2 i).f1.f0) (by simpa using m1); have m2 := pw_cell_below hb3 (a := ⟨wr.heap.size, 2, none⟩) (v := .int .i64 (rd_T57 l2 i).f1.f1) (by simpa using m2); have m3 := pw_cell_below hb3 (a := ⟨wr.heap.size, 3, none⟩) (v := .int .i64 (rd_T57 l2 i).f2.f0) (by simpa using m3); have m4 := pw_cell_below hb3 (a := ⟨wr.heap.size, 4, none⟩) (v := .int .i64 (rd_T57 l2 i).f2.f1) (by simpa using m4); have HEA := Aside0.mk (below_step (by repeat (first | (with_reducible exact HEA.out) | apply below_drew | apply pw_below_drewN)) hb3); clear hb3))
                all_goals
                  go_roundw
                  case rel => exact ⟨i + 1, by omega, by go_num, by rw [HS.out]; unfold delB; simp [*], ⟨by repeat (first | (with_reducible exact HEA.out) | apply below_alloc | apply below_drew | apply pw_below_drewN)⟩⟩
                  case measure => simp [intOf]; omega
              · obtain rfl : i = l2.length := by omega
                have HV := Aside0.mk hb
                clear hb
                have hd : decide ((l2.length : Int) < (l2.length : Int)) = false := decide_eq_false (by omega)
                go_wp2
                go_meet
                case rel => exact ⟨by rw [HV.out], HC⟩
        case rest =>
          obtain ⟨rfl, HD⟩ := hcut
          have he : chkD l0.length l2 (chkL l0.length l1 (chkS l0 (lenB l0 l1 l2) l0.length) l1.length) l2.length = chkD l0.length l2 b2 l2.length := by rw [← G0.out, ← G1.out, ← G2.out]
          obtain ⟨b3, hb3⟩ : ∃ b, b = chkD l0.length l2 b2 l2.length := ⟨_, rfl⟩
          rw [← hb3]
          rw [← hb3] at he
          have HE3 := Aside0.mk he
          clear he hb3
          cases b3 with
          | true =>
            go_wp2
            go_ret
            exact ⟨by rw [HE3.out]; rfl, below_step HW1.out HD.out⟩
          | false =>
            go_wp2
            go_ret
            exact ⟨by rw [HE3.out]; rfl, below_step HW1.out HD.out⟩
theorem wishbookref10_Check.calls (A0 : Option Addr) (c0 : Nat) (l0 : List Int) (A1 : Option Addr) (c1 : Nat) (l1 : List S47) (A2 : Option Addr) (c2 : Nat) (l2 : List S57) (r : Int) (w : World)
    (h0 : Kd.C (Kd.int .i64) w A0 l0.length l0) (hc0 : l0.length ≤ c0) (h1 : Kd.C k47 w A1 l1.length l1) (hc1 : l1.length ≤ c1) (h2 : Kd.C k57 w A2 l2.length l2) (hc2 : l2.length ≤ c2) (h : wishbookref10_Check.f l0 l1 l2 = some r) :
    Calls Tryd.prog 47 #[.agg #[.slice A0 l0.length c0, .slice A1 l1.length c1, .slice A2 l2.length c2]] w fun e w' => e = .returned (.int .i64 r) ∧ Below w.heap.size w w' := by
  unfold wishbookref10_Check.f at h
  by_cases hf : Few l0 l1 l2
  · rw [if_pos hf] at h
    cases h
    exact (RCheck_walk A0 A1 A2 c0 c1 c2 l0 l1 l2 w h0 hc0 h1 hc1 h2 hc2 hf.1 hf.2.1 hf.2.2).mono fun e w' ⟨he, hb⟩ => ⟨by rw [he, chk_ok], hb⟩
  · rw [if_neg hf] at h
    cases h
end Go.Proofs.YtegpepnmnlockaaDoor.PL
namespace Go.Proofs.YtegpepnmnlockaaDoor.PL
open Go.RowKit Go.Proofs.YtegpepnmnlockaaDoorW.PrintWords Go.Proofs.YtegpepnmnlockaaDoorW.PrintLast Go.Proofs.YtegpepnmnlockaaDoorW.PrintMore
set_option linter.unusedVariables false
set_option linter.unusedSimpArgs false
set_option maxHeartbeats 8000000 in
set_option maxRecDepth 100000 in
theorem rwith_walk (A0 A1 A2 : Option Addr) (m0 m1 c0 c1 c2 : Nat) (l2 : List S57) (a1 : Int) (x : S57) (w : World) (h2 : Kd.C k57 w A2 l2.length l2) (hc2 : l2.length ≤ c2) (hl : l2.length ≤ 1000) (ha : 0 ≤ a1) (ha2 : a1 < (l2.length : Int)) :
    Calls Tryd.prog 61 #[.agg #[.slice A0 m0 c0, .slice A1 m1 c1, .slice A2 l2.length c2], .int .i64 a1, .agg #[.int .i64 x.f0, .int .i64 x.f1.f0, .int .i64 x.f1.f1, .int .i64 x.f2.f0, .int .i64 x.f2.f1]] w fun e w' => ∃ A c, e = .returned (.agg #[.slice A0 m0 c0, .slice A1 m1 c1, .slice A l2.length c]) ∧ l2.length ≤ c ∧ Kd.C k57 w' A l2.length (l2.set a1.toNat x) ∧ Below w.heap.size w w' := by
  have H2 := Aside0.mk h2
  have HC2 := Aside0.mk hc2
  have HL := Aside0.mk hl
  have HX1 := heap_alloc_new w (.cells #[.slice A0 m0 c0, .slice A1 m1 c1, .slice A2 l2.length c2] 26)
  have HX2 := heap_alloc_new (w.alloc (.cells #[.slice A0 m0 c0, .slice A1 m1 c1, .slice A2 l2.length c2] 26)) (.cells #[.int .i64 x.f0, .int .i64 x.f1.f0, .int .i64 x.f1.f1, .int .i64 x.f2.f0, .int .i64 x.f2.f1] 57)
  have HX3 := heap_alloc_new ((w.alloc (.cells #[.slice A0 m0 c0, .slice A1 m1 c1, .slice A2 l2.length c2] 26)).alloc (.cells #[.int .i64 x.f0, .int .i64 x.f1.f0, .int .i64 x.f1.f1, .int .i64 x.f2.f0, .int .i64 x.f2.f1] 57)) (.cells #[.slice none 0 0, .slice none 0 0, .slice none 0 0] 26)
  have HX4 := heap_alloc_new (((w.alloc (.cells #[.slice A0 m0 c0, .slice A1 m1 c1, .slice A2 l2.length c2] 26)).alloc (.cells #[.int .i64 x.f0, .int .i64 x.f1.f0, .int .i64 x.f1.f1, .int .i64 x.f2.f0, .int .i64 x.f2.f1] 57)).alloc (.cells #[.slice none 0 0, .slice none 0 0, .slice none 0 0] 26)) (.cells #[.slice A0 m0 c0, .slice A1 m1 c1, .slice A2 l2.length c2] 26)
  have B1 := below_alloc (Below.refl w.heap.size w) (.cells #[.slice A0 m0 c0, .slice A1 m1 c1, .slice A2 l2.length c2] 26)
  have B2 := below_alloc (Below.refl (w.alloc (.cells #[.slice A0 m0 c0, .slice A1 m1 c1, .slice A2 l2.length c2] 26)).heap.size (w.alloc (.cells #[.slice A0 m0 c0, .slice A1 m1 c1, .slice A2 l2.length c2] 26))) (.cells #[.int .i64 x.f0, .int .i64 x.f1.f0, .int .i64 x.f1.f1, .int .i64 x.f2.f0, .int .i64 x.f2.f1] 57)
  have B3 := below_alloc (Below.refl ((w.alloc (.cells #[.slice A0 m0 c0, .slice A1 m1 c1, .slice A2 l2.length c2] 26)).alloc (.cells #[.int .i64 x.f0, .int .i64 x.f1.f0, .int .i64 x.f1.f1, .int .i64 x.f2.f0, .int .i64 x.f2.f1] 57)).heap.size ((w.alloc (.cells #[.slice A0 m0 c0, .slice A1 m1 c1, .slice A2 l2.length c2] 26)).alloc (.cells #[.int .i64 x.f0, .int .i64 x.f1.f0, .int .i64 x.f1.f1, .int .i64 x.f2.f0, .int .i64 x.f2.f1] 57))) (.cells #[.slice none 0 0, .slice none 0 0, .slice none 0 0] 26)
  have B4 := below_alloc (Below.refl (((w.alloc (.cells #[.slice A0 m0 c0, .slice A1 m1 c1, .slice A2 l2.length c2] 26)).alloc (.cells #[.int .i64 x.f0, .int .i64 x.f1.f0, .int .i64 x.f1.f1, .int .i64 x.f2.f0, .int .i64 x.f2.f1] 57)).alloc (.cells #[.slice none 0 0, .slice none 0 0, .slice none 0 0] 26)).heap.size (((w.alloc (.cells #[.slice A0 m0 c0, .slice A1 m1 c1, .slice A2 l2.length c2] 26)).alloc (.cells #[.int .i64 x.f0, .int .i64 x.f1.f0, .int .i64 x.f1.f1, .int .i64 x.f2.f0, .int .i64 x.f2.f1] 57)).alloc (.cells #[.slice none 0 0, .slice none 0 0, .slice none 0 0] 26))) (.cells #[.slice A0 m0 c0, .slice A1 m1 c1, .slice A2 l2.length c2] 26)
  have HB := Aside0.mk (below_step (below_step (below_step B1 B2) B3) B4)
  have KB := Aside0.mk (blk_below (blk_below (blk_below HX1 B2) B3) B4)
  have KX := Aside0.mk (blk_below (blk_below HX2 B3) B4)
  have KR := Aside0.mk (blk_below HX3 B4)
  have KY := Aside0.mk HX4
  clear HX1 HX2 HX3 HX4 B1 B2 B3 B4 h2 hc2 hl
  have hu26 := Tryd.underlying26
  have hu57 := Tryd.underlying57
  go_enter Tryd.func61, Tryd.ntmps61
  go_upto_region 2 with (fail)
  have hsz : ∀ (w : World) (o : Obj), (w.alloc o).heap.size = w.heap.size + 1 := fun w o => by simp
  simp only [hsz] at KX KR KY
  clear hsz
  generalize (((w.alloc (.cells #[.slice A0 m0 c0, .slice A1 m1 c1, .slice A2 l2.length c2] 26)).alloc (.cells #[.int .i64 x.f0, .int .i64 x.f1.f0, .int .i64 x.f1.f1, .int .i64 x.f2.f0, .int .i64 x.f2.f1] 57)).alloc (.cells #[.slice none 0 0, .slice none 0 0, .slice none 0 0] 26)).alloc (.cells #[.slice A0 m0 c0, .slice A1 m1 c1, .slice A2 l2.length c2] 26) = W4 at HB KB KX KR KY ⊢
  obtain ⟨gb, hgb⟩ : ∃ g, g = w.heap.size := ⟨_, rfl⟩
  obtain ⟨gx, hgx⟩ : ∃ g, g = w.heap.size + 1 := ⟨_, rfl⟩
  obtain ⟨gr, hgr⟩ : ∃ g, g = w.heap.size + 1 + 1 := ⟨_, rfl⟩
  obtain ⟨gy, hgy⟩ : ∃ g, g = w.heap.size + 1 + 1 + 1 := ⟨_, rfl⟩
  rw [← hgy] at KY ⊢
  rw [← hgr] at KR ⊢
  rw [← hgx] at KX ⊢
  have HG := Aside0.mk (show w.heap.size ≤ gb ∧ w.heap.size ≤ gy ∧ w.heap.size ≤ gr ∧ gx ≠ gy ∧ gr ≠ gy ∧ gb ≠ gy ∧ gx ≠ gr ∧ gy ≠ gr by omega)
  clear hgr hgx hgy
  have hgo := HG.out
  clear hgb
  have q2 := (blk_cell KB.out 2).trans (show _ = some (Value.slice A2 l2.length c2) from rfl)
  have HGX := Aside0.mk hgo
  clear hgo
  go_upto_region 3 with (first
    | ((with_reducible refine gate_dst (N := 9) rfl ?_); refine Kd.R_lit k57 _ 57 ?hg (N := 9) ?hd (xs := ([] : List (S57))) (inner := []) (ok := fun _ => True) (okp := fun _ => True) ?hr ?hp (fun _ hk => hk) trivial (Below.refl _ _) (Nat.le_refl _) (by simp) ?_; (case hd => rfl); (case hg => rfl); (case hr => first | (go_simp; done) | (go_simp; rfl)); (case hp => exact (Reps.none _ _)); intro v9 w5 ho hb hg_ hnew_; clear hg_ hnew_; have HO := Aside0.mk (Kd.R_lower (Kd.R_newB ho (g := gx) (o := .cells #[.int .i64 x.f0, .int .i64 x.f1.f0, .int .i64 x.f1.f1, .int .i64 x.f2.f0, .int .i64 x.f2.f1] 57 (0, 0)) KX.out) (below_size HB.out)); have n0_ := Aside0.mk (blk_below KB.out hb); have n1_ := Aside0.mk (blk_below KX.out hb); have n2_ := Aside0.mk (blk_below KR.out hb); have n3_ := Aside0.mk (blk_below KY.out hb); have n4_ := Aside0.mk (below_step HB.out hb); clear KB KX KR KY HB q2 ho hb; have KB := n0_; have KX := n1_; have KR := n2_; have KY := n3_; have HB := n4_; clear n0_ n1_ n2_ n3_ n4_; have q2 := (blk_cell KB.out 2).trans (show _ = some (Value.slice A2 l2.length c2) from rfl))
    | ((with_reducible refine gate_builtin (b := .append) (xs := #[.tmp 9, .tmp 11]) rfl ?_); at_builtin; refine Kd.R_append_rows k57 (w0 := w) w.heap.size rfl (.tmp 9) (.tmp 11) 24 57 (.agg #[(.int .i64 0), (.int .i64 0), (.int .i64 0), (.int .i64 0), (.int .i64 0)]) 40 rfl Tryd.underlying24 info57 rfl (by decide) (by omega) v9 [] l2 _ _ _ (fun k_ => True ∧ k_ ≠ gx) (fun _ => False) rfl rfl ?aO ?aR (fun _ _ h => h) (fun _ h => h.elim) ?aF ?aB ?aS ?aL ?_; (case aR => exact Kd.C_below H2.out HB.out); (case aB => exact HB.out); (case aF => exact (fun k_ hk => ⟨trivial, Kd.freshB (g := gx) (o := .cells #[.int .i64 x.f0, .int .i64 x.f1.f0, .int .i64 x.f1.f1, .int .i64 x.f2.f0, .int .i64 x.f2.f1] 57 (0, 0)) KX.out k_ hk⟩)); (case aO => exact HO.out); (case aS => exact below_size HB.out); (case aL => have := HL.out; simp; omega); intro v12 w6 ho hb hg hat; have n0_ := Aside0.mk (blk_grown KB.out hg (Kd.R_ne HO.out KB.out (by decide))); have n1_ := Aside0.mk (blk_grown KX.out hg (Kd.R_away HO.out (fun _ hk => hk.2))); have n2_ := Aside0.mk (blk_grown KR.out hg (Kd.R_ne HO.out KR.out (by decide))); have n3_ := Aside0.mk (blk_grown KY.out hg (Kd.R_ne HO.out KY.out (by decide))); have n4_ := Aside0.mk hb; have n5_ := Aside0.mk ho; clear KB KX KR KY HB HO q2 ho hb hg hat; have KB := n0_; have KX := n1_; have KR := n2_; have KY := n3_; have HB := n4_; have HO := n5_; clear n0_ n1_ n2_ n3_ n4_ n5_; obtain ⟨A, c, eo⟩ := Kd.R_slice HO.out; subst eo; have y2 := (blk_cell KY.out 2).trans (show _ = some (Value.slice A2 l2.length c2) from rfl); have f2 := blk_frozen KY.out 2))
  replace HO := Aside0.mk (show Kd.R k57 57 w6 w.heap.size (fun k_ => True ∧ k_ ≠ gx) (.slice A l2.length c) l2 from HO.out)
  have hlen0 : 0 < l2.length := by omega
  obtain ⟨go, co, eo, gbo, glo, clo, HGo⟩ := Kd.R_form HO.out hlen0
  clear hlen0
  (first | cases eo | (injection eo with ea_ en_ ec_; (first | subst ea_ | (injection ea_ with ea_; subst ea_)); subst ec_; clear en_))
  have GO := Aside0.mk gbo
  have HCO := Aside0.mk (show l2.length ≤ c from (Kd.R_reads' HO.out).2.1)
  clear gbo glo clo HGo
  have hg := HGX.out
  have HO7 := Aside0.mk (Kd.R_mono (Kd.R_far (p := ⟨gy, 2, none⟩) (Kd.R_types HO.out KY.out (by decide)) (fun _ hk => hk.2) (.slice (some ⟨go, 0, none⟩) l2.length c)) (ok' := fun k_ => True ∧ k_ ≠ gx) (fun _ hk => hk.1))
  have KY7 := Aside0.mk (blk_put (cs := #[.slice A0 m0 c0, .slice A1 m1 c1, .slice A2 l2.length c2]) (cs' := #[.slice A0 m0 c0, .slice A1 m1 c1, .slice (some ⟨go, 0, none⟩) l2.length c]) KY.out 2 (.slice (some ⟨go, 0, none⟩) l2.length c) rfl)
  have KX7 := Aside0.mk (blk_far KX.out (p := ⟨gy, 2, none⟩) hg.2.2.2.1 (.slice (some ⟨go, 0, none⟩) l2.length c))
  have KR7 := Aside0.mk (blk_far KR.out (p := ⟨gy, 2, none⟩) hg.2.2.2.2.1 (.slice (some ⟨go, 0, none⟩) l2.length c))
  have HB7 := Aside0.mk (below_set (g := gy) (j := 2) (v := (.slice (some ⟨go, 0, none⟩) l2.length c)) HB.out hg.2.1)
  clear hg KB KX KR KY HB HO y2 f2
  generalize w6.setCell ⟨gy, 2, none⟩ (.slice (some ⟨go, 0, none⟩) l2.length c) = W7 at HO7 KY7 KX7 KR7 HB7 ⊢
  obtain ⟨ce, hcl, hM, hcc, hfr⟩ := Kd.R_elem HO7.out z57 a1 ha ha2
  obtain rfl := k57_openM hM
  have HP := Aside0.mk (Kd.R_seg HO7.out a1 ha ha2 (seg := [.int .i64 x.f0, .int .i64 x.f1.f0, .int .i64 x.f1.f1, .int .i64 x.f2.f0, .int .i64 x.f2.f1]) (j := 0) hcl hcc (show 5 ≤ 5 from by decide) (x' := x) (k57_mkM _ _ _ x) (fun _ hk => hk))
  have e0 := hcc 0 _ rfl
  have e1 := hcc 1 _ rfl
  have e2 := hcc 2 _ rfl
  have e3 := hcc 3 _ rfl
  have e4 := hcc 4 _ rfl
  have f0 := hfr 0
  have f1 := hfr 1
  have f2 := hfr 2
  have f3 := hfr 3
  have f4 := hfr 4
  simp only [show (k57).sz = 5 from rfl, Nat.mul_one, Nat.add_zero] at e0 e1 e2 e3 e4 f0 f1 f2 f3 f4
  clear hcl hM hcc hfr
  have y2 := (blk_cell KY7.out 2).trans (show _ = some (Value.slice (some ⟨go, 0, none⟩) l2.length c) from rfl)
  have x0 := (blk_cell KX7.out 0).trans (show _ = some (Value.int .i64 x.f0) from rfl)
  have x1 := (blk_cell KX7.out 1).trans (show _ = some (Value.int .i64 x.f1.f0) from rfl)
  have x2 := (blk_cell KX7.out 2).trans (show _ = some (Value.int .i64 x.f1.f1) from rfl)
  have x3 := (blk_cell KX7.out 3).trans (show _ = some (Value.int .i64 x.f2.f0) from rfl)
  have x4 := (blk_cell KX7.out 4).trans (show _ = some (Value.int .i64 x.f2.f1) from rfl)
  go_upto_region 4 with (fail)
  have HO8 := Aside0.mk (show Kd.R k57 57 (((((W7.setCell ⟨go, a1.toNat * 5, none⟩ (.int .i64 x.f0)).setCell ⟨go, a1.toNat * 5 + 1, none⟩ (.int .i64 x.f1.f0)).setCell ⟨go, a1.toNat * 5 + 2, none⟩ (.int .i64 x.f1.f1)).setCell ⟨go, a1.toNat * 5 + 3, none⟩ (.int .i64 x.f2.f0)).setCell ⟨go, a1.toNat * 5 + 4, none⟩ (.int .i64 x.f2.f1)) w.heap.size (fun k_ => True ∧ k_ ≠ gx) (.slice (some ⟨go, 0, none⟩) l2.length c) (l2.set a1.toNat x) from HP.out.1)
  have hg8 : W7.grownBy (((((W7.setCell ⟨go, a1.toNat * 5, none⟩ (.int .i64 x.f0)).setCell ⟨go, a1.toNat * 5 + 1, none⟩ (.int .i64 x.f1.f0)).setCell ⟨go, a1.toNat * 5 + 2, none⟩ (.int .i64 x.f1.f1)).setCell ⟨go, a1.toNat * 5 + 3, none⟩ (.int .i64 x.f2.f0)).setCell ⟨go, a1.toNat * 5 + 4, none⟩ (.int .i64 x.f2.f1)) (some go) := HP.out.2
  have KY8 := Aside0.mk (blk_grown KY7.out hg8 (Kd.R_ne HO7.out KY7.out (by decide)))
  have KR8 := Aside0.mk (blk_grown KR7.out hg8 (Kd.R_ne HO7.out KR7.out (by decide)))
  have HB8 := Aside0.mk (show Below w.heap.size w (((((W7.setCell ⟨go, a1.toNat * 5, none⟩ (.int .i64 x.f0)).setCell ⟨go, a1.toNat * 5 + 1, none⟩ (.int .i64 x.f1.f0)).setCell ⟨go, a1.toNat * 5 + 2, none⟩ (.int .i64 x.f1.f1)).setCell ⟨go, a1.toNat * 5 + 3, none⟩ (.int .i64 x.f2.f0)).setCell ⟨go, a1.toNat * 5 + 4, none⟩ (.int .i64 x.f2.f1)) from below_set (below_set (below_set (below_set (below_set HB7.out GO.out) GO.out) GO.out) GO.out) GO.out)
  clear hg8 HP HO7 KY7 KX7 KR7 HB7 e0 e1 e2 e3 e4 f0 f1 f2 f3 f4 y2 x0 x1 x2 x3 x4
  generalize (((((W7.setCell ⟨go, a1.toNat * 5, none⟩ (.int .i64 x.f0)).setCell ⟨go, a1.toNat * 5 + 1, none⟩ (.int .i64 x.f1.f0)).setCell ⟨go, a1.toNat * 5 + 2, none⟩ (.int .i64 x.f1.f1)).setCell ⟨go, a1.toNat * 5 + 3, none⟩ (.int .i64 x.f2.f0)).setCell ⟨go, a1.toNat * 5 + 4, none⟩ (.int .i64 x.f2.f1)) = W8 at HO8 KY8 KR8 HB8 ⊢
  have y0 := (blk_cell KY8.out 0).trans (show _ = some (Value.slice A0 m0 c0) from rfl)
  have y1 := (blk_cell KY8.out 1).trans (show _ = some (Value.slice A1 m1 c1) from rfl)
  have y2 := (blk_cell KY8.out 2).trans (show _ = some (Value.slice (some ⟨go, 0, none⟩) l2.length c) from rfl)
  have z0 := (blk_cell KR8.out 0).trans (show _ = some (Value.slice none 0 0) from rfl)
  have z1 := (blk_cell KR8.out 1).trans (show _ = some (Value.slice none 0 0) from rfl)
  have z2 := (blk_cell KR8.out 2).trans (show _ = some (Value.slice none 0 0) from rfl)
  have f0 := blk_frozen KR8.out 0
  have f1 := blk_frozen KR8.out 1
  have f2 := blk_frozen KR8.out 2
  go_wp2_with (fail)
  refine bodyPost_ret (results_cell_row rfl _ _ gr 26 #[.slice A0 m0 c0, .slice A1 m1 c1, .slice (some ⟨go, 0, none⟩) l2.length c] (0, 0) _ rfl (blk_put (cs := #[.slice A0 m0 c0, .slice A1 m1 c1, .slice none 0 0]) (blk_put (cs := #[.slice A0 m0 c0, .slice none 0 0, .slice none 0 0]) (blk_put (cs := #[.slice none 0 0, .slice none 0 0, .slice none 0 0]) KR8.out 0 _ rfl) 1 _ rfl) 2 _ rfl) Tryd.underlying26 rfl (by kernel_rfl)) rfl ?_
  refine ⟨some ⟨go, 0, none⟩, c, rfl, HCO.out, ?_, below_set (below_set (below_set HB8.out HGX.out.2.2.1) HGX.out.2.2.1) HGX.out.2.2.1⟩
  have h9 := (Kd.R_reads' (Kd.R_far (p := ⟨gr, 2, none⟩) (Kd.R_far (p := ⟨gr, 1, none⟩) (Kd.R_far (p := ⟨gr, 0, none⟩) (Kd.R_types HO8.out KR8.out (by decide)) (fun _ hk => hk.2) (.slice A0 m0 c0)) (fun _ hk => hk.2) (.slice A1 m1 c1)) (fun _ hk => hk.2) (.slice (some ⟨go, 0, none⟩) l2.length c))).2.2
  rw [List.length_set] at h9
  exact h9
end Go.Proofs.YtegpepnmnlockaaDoor.PL
namespace Go.Proofs.YtegpepnmnlockaaDoor.PL
open Go.RowKit Go.Proofs.YtegpepnmnlockaaDoorW.PrintWords Go.Proofs.YtegpepnmnlockaaDoorW.PrintLast Go.Proofs.YtegpepnmnlockaaDoorW.PrintMore
attribute [local go_sem] max2_int min2_int max_two min_two max_three min_three max_four min_four   -- for this text's walks alone
set_option linter.unusedVariables false
set_option linter.unusedSimpArgs false
def wishbookref10_asked.f (l0_0 : List Int) (l0_1 : List (S47)) (l0_2 : List (S57)) (a1 : Bool) : Option (Int) := (wishbookref10_Check.f l0_0 l0_1 l0_2).bind fun t254 => (if t254 = 0 then (if a1 = true then (some 0) else (some 101)) else (some t254))
set_option maxHeartbeats 8000000 in
set_option maxRecDepth 100000 in
theorem wishbookref10_asked.calls (A0_0 : Option Addr) (c0_0 : Nat) (l0_0 : List Int) (A0_1 : Option Addr) (c0_1 : Nat) (l0_1 : List (S47)) (A0_2 : Option Addr) (c0_2 : Nat) (l0_2 : List (S57)) (a1 : Bool) (r : Int) (w : World) (hr0_0 : Kd.C (Kd.int .i64) w A0_0 l0_0.length l0_0) (hc0_0 : l0_0.length ≤ c0_0) (hr0_1 : Kd.C k47 w A0_1 l0_1.length l0_1) (hc0_1 : l0_1.length ≤ c0_1) (hr0_2 : Kd.C k57 w A0_2 l0_2.length l0_2) (hc0_2 : l0_2.length ≤ c0_2) (h : wishbookref10_asked.f l0_0 l0_1 l0_2 a1 = some r) :
    Calls Tryd.prog 52 #[.agg #[.slice A0_0 l0_0.length c0_0, .slice A0_1 l0_1.length c0_1, .slice A0_2 l0_2.length c0_2], .bool a1] w fun e w' => e = .returned (.int .i64 r) ∧ Below w.heap.size w w' := by
  have hu26 := Tryd.underlying26
  have HR0_0 := Aside0.mk hr0_0
  have HC0_0 := Aside0.mk hc0_0
  clear hr0_0 hc0_0
  have HR0_1 := Aside0.mk hr0_1
  have HC0_1 := Aside0.mk hc0_1
  clear hr0_1 hc0_1
  have HR0_2 := Aside0.mk hr0_2
  have HC0_2 := Aside0.mk hc0_2
  clear hr0_2 hc0_2
  have HB := Aside0.mk (Below.refl w.heap.size w)
  have H : ((wishbookref10_Check.f l0_0 l0_1 l0_2).bind fun t254 => (if t254 = 0 then (if a1 = true then (some 0) else (some 101)) else (some t254))) = some r := h
  clear h
  replace H := Option.bind_eq_some_iff.mp H
  obtain ⟨t254, A30, H⟩ := H
  replace H : (if t254 = 0 then (if a1 = true then (some 0) else (some 101)) else (some t254)) = some r := H
  have A3 := Aside0.mk A30
  clear A30
  by_cases c4 : t254 = 0
  · rw [if_pos c4] at H
    have c4b0 : (t254 == 0) = true := beq_iff_eq.mpr c4
    have c4b1 : (t254 != 0) = false := bne_eq_false_iff_eq.mpr c4
    clear c4
    by_cases c5 : a1 = true
    · subst c5
      have H1 : (some 0) = some r := by rw [if_pos rfl] at H; exact H
      clear H
      have H := H1
      clear H1
      obtain rfl := Option.some.inj H
      go_enter Tryd.func52, Tryd.ntmps52
      go_wp2_with (first | ((with_reducible refine gate_dst (N := 2) rfl ?_); refine box_event ?hg (N := 2) ?hd (cs := #[.slice A0_0 l0_0.length c0_0, .slice A0_1 l0_1.length c0_1, .slice A0_2 l0_2.length c0_2]) (t := 26) ?hr ?_; (case hd => rfl); (case hg => rfl); (case hr => first | (go_simp; done) | (go_simp; rfl)); intro gb253 hg w6 hbox hb; have n0_ := Aside0.mk (below_step (by repeat (first | (with_reducible first | exact HB.out | apply below_alloc | apply pw_below_drewN | apply below_drew1) | exact HB.out)) hb); have n1_ := Aside0.mk (hbox); have n2_ := Aside0.mk ((by rw [hg]; exact (below_size (by repeat (first | (with_reducible first | exact HB.out | apply below_alloc | apply pw_below_drewN | apply below_drew1) | exact HB.out))) : w.heap.size ≤ gb253)); have n3_ := Aside0.mk ((by rw [hg]; exact (below_size (by repeat (first | (with_reducible first | exact HB.out | apply below_alloc | apply pw_below_drewN | apply below_drew1) | exact HB.out))) : w.heap.size ≤ gb253)); clear HB; have HB := n0_; have BK253 := n1_; have GW253 := n2_; have GE253 := n3_; clear n0_ n1_ n2_ n3_; clear hb hbox hg; have hcz7_0 : w6.cell? ⟨gb253, 0, none⟩ = some (.slice A0_0 l0_0.length c0_0) := (blk_cell BK253.out 0).trans rfl; have hcz7_1 : w6.cell? ⟨gb253, 1, none⟩ = some (.slice A0_1 l0_1.length c0_1) := (blk_cell BK253.out 1).trans rfl; have hcz7_2 : w6.cell? ⟨gb253, 2, none⟩ = some (.slice A0_2 l0_2.length c0_2) := (blk_cell BK253.out 2).trans rfl; have hfz7_0 := blk_frozen BK253.out 0; have hfz7_1 := blk_frozen BK253.out 1; have hfz7_2 := blk_frozen BK253.out 2) | ((with_reducible refine gate_callee (f := 47) rfl ?_); refine goesL_ (some 7) rfl rfl Tryd.func47 (by kernel_rfl) rfl #[.agg #[.slice A0_0 l0_0.length c0_0, .slice A0_1 l0_1.length c0_1, .slice A0_2 l0_2.length c0_2]] rfl (by (try simp only [List.map_toArray, List.map_cons, List.map_nil]); first | done | rfl | (simp only [List.length_drop, List.length_take]; rfl)) ?_; (with_reducible refine (wishbookref10_Check.calls _ _ l0_0 _ _ l0_1 _ _ l0_2 t254 _ ?side1 ?side2 ?side3 ?side4 ?side5 ?side6 A3.out).mono ?_); (case side1 => repeat (first | exact (Kd.C_below HR0_0.out HB.out) | (with_reducible refine Kd.C_alloc ?_ _) | (with_reducible refine Kd.C_drewN ?_ _) | (with_reducible refine Kd.C_drew ?_))); (case side2 => exact HC0_0.out); (case side3 => repeat (first | exact (Kd.C_below HR0_1.out HB.out) | (with_reducible refine Kd.C_alloc ?_ _) | (with_reducible refine Kd.C_drewN ?_ _) | (with_reducible refine Kd.C_drew ?_))); (case side4 => exact HC0_1.out); (case side5 => repeat (first | exact (Kd.C_below HR0_2.out HB.out) | (with_reducible refine Kd.C_alloc ?_ _) | (with_reducible refine Kd.C_drewN ?_ _) | (with_reducible refine Kd.C_drew ?_))); (case side6 => exact HC0_2.out); rintro e w8 ⟨rfl, hb⟩; refine ⟨_, rfl, ?_⟩; have n0_ := Aside0.mk (blk_below (g := gb253) (o := .cells #[.slice A0_0 l0_0.length c0_0, .slice A0_1 l0_1.length c0_1, .slice A0_2 l0_2.length c0_2] 26 (0, 0)) (by (with_reducible repeat (first | refine blk_drewN ?_ _ | refine blk_drew ?_ | refine blk_alloc ?_ _)); exact BK253.out) hb); have n1_ := Aside0.mk (below_step (by repeat (first | (with_reducible first | exact HB.out | apply below_alloc | apply pw_below_drewN | apply below_drew1 | refine below_set ?_ GE253.out) | exact HB.out)) hb); clear BK253; clear HB; have BK253 := n0_; have HB := n1_; clear n0_ n1_; (try clear hb); (try clear hb2); (try clear hk); (try clear hi)))
      go_ret
      exact ⟨by first | rfl | (simp [errW_none, errW_some] <;> rfl) | (simp [*, errW_none, errW_some] <;> rfl), by repeat (first | (with_reducible first | exact HB.out | apply below_alloc | apply pw_below_drewN | apply below_drew1 | refine below_set ?_ GE253.out) | exact HB.out)⟩
    · replace c5 := Bool.eq_false_iff.mpr c5
      subst c5
      have H1 : (some 101) = some r := by rw [if_neg (show ¬ (false = true) by decide)] at H; exact H
      clear H
      have H := H1
      clear H1
      obtain rfl := Option.some.inj H
      go_enter Tryd.func52, Tryd.ntmps52
      go_wp2_with (first | ((with_reducible refine gate_dst (N := 2) rfl ?_); refine box_event ?hg (N := 2) ?hd (cs := #[.slice A0_0 l0_0.length c0_0, .slice A0_1 l0_1.length c0_1, .slice A0_2 l0_2.length c0_2]) (t := 26) ?hr ?_; (case hd => rfl); (case hg => rfl); (case hr => first | (go_simp; done) | (go_simp; rfl)); intro gb253 hg w9 hbox hb; have n0_ := Aside0.mk (below_step (by repeat (first | (with_reducible first | exact HB.out | apply below_alloc | apply pw_below_drewN | apply below_drew1) | exact HB.out)) hb); have n1_ := Aside0.mk (hbox); have n2_ := Aside0.mk ((by rw [hg]; exact (below_size (by repeat (first | (with_reducible first | exact HB.out | apply below_alloc | apply pw_below_drewN | apply below_drew1) | exact HB.out))) : w.heap.size ≤ gb253)); have n3_ := Aside0.mk ((by rw [hg]; exact (below_size (by repeat (first | (with_reducible first | exact HB.out | apply below_alloc | apply pw_below_drewN | apply below_drew1) | exact HB.out))) : w.heap.size ≤ gb253)); clear HB; have HB := n0_; have BK253 := n1_; have GW253 := n2_; have GE253 := n3_; clear n0_ n1_ n2_ n3_; clear hb hbox hg; have hcz10_0 : w9.cell? ⟨gb253, 0, none⟩ = some (.slice A0_0 l0_0.length c0_0) := (blk_cell BK253.out 0).trans rfl; have hcz10_1 : w9.cell? ⟨gb253, 1, none⟩ = some (.slice A0_1 l0_1.length c0_1) := (blk_cell BK253.out 1).trans rfl; have hcz10_2 : w9.cell? ⟨gb253, 2, none⟩ = some (.slice A0_2 l0_2.length c0_2) := (blk_cell BK253.out 2).trans rfl; have hfz10_0 := blk_frozen BK253.out 0; have hfz10_1 := blk_frozen BK253.out 1; have hfz10_2 := blk_frozen BK253.out 2) | ((with_reducible refine gate_callee (f := 47) rfl ?_); refine goesL_ (some 7) rfl rfl Tryd.func47 (by kernel_rfl) rfl #[.agg #[.slice A0_0 l0_0.length c0_0, .slice A0_1 l0_1.length c0_1, .slice A0_2 l0_2.length c0_2]] rfl (by (try simp only [List.map_toArray, List.map_cons, List.map_nil]); first | done | rfl | (simp only [List.length_drop, List.length_take]; rfl)) ?_; (with_reducible refine (wishbookref10_Check.calls _ _ l0_0 _ _ l0_1 _ _ l0_2 t254 _ ?side1 ?side2 ?side3 ?side4 ?side5 ?side6 A3.out).mono ?_); (case side1 => repeat (first | exact (Kd.C_below HR0_0.out HB.out) | (with_reducible refine Kd.C_alloc ?_ _) | (with_reducible refine Kd.C_drewN ?_ _) | (with_reducible refine Kd.C_drew ?_))); (case side2 => exact HC0_0.out); (case side3 => repeat (first | exact (Kd.C_below HR0_1.out HB.out) | (with_reducible refine Kd.C_alloc ?_ _) | (with_reducible refine Kd.C_drewN ?_ _) | (with_reducible refine Kd.C_drew ?_))); (case side4 => exact HC0_1.out); (case side5 => repeat (first | exact (Kd.C_below HR0_2.out HB.out) | (with_reducible refine Kd.C_alloc ?_ _) | (with_reducible refine Kd.C_drewN ?_ _) | (with_reducible refine Kd.C_drew ?_))); (case side6 => exact HC0_2.out); rintro e w11 ⟨rfl, hb⟩; refine ⟨_, rfl, ?_⟩; have n0_ := Aside0.mk (blk_below (g := gb253) (o := .cells #[.slice A0_0 l0_0.length c0_0, .slice A0_1 l0_1.length c0_1, .slice A0_2 l0_2.length c0_2] 26 (0, 0)) (by (with_reducible repeat (first | refine blk_drewN ?_ _ | refine blk_drew ?_ | refine blk_alloc ?_ _)); exact BK253.out) hb); have n1_ := Aside0.mk (below_step (by repeat (first | (with_reducible first | exact HB.out | apply below_alloc | apply pw_below_drewN | apply below_drew1 | refine below_set ?_ GE253.out) | exact HB.out)) hb); clear BK253; clear HB; have BK253 := n0_; have HB := n1_; clear n0_ n1_; (try clear hb); (try clear hb2); (try clear hk); (try clear hi)))
      go_ret
      exact ⟨by first | rfl | (simp [errW_none, errW_some] <;> rfl) | (simp [*, errW_none, errW_some] <;> rfl), by repeat (first | (with_reducible first | exact HB.out | apply below_alloc | apply pw_below_drewN | apply below_drew1 | refine below_set ?_ GE253.out) | exact HB.out)⟩
  · rw [if_neg c4] at H
    have c4b0 : (t254 == 0) = false := beq_eq_false_iff_ne.mpr c4
    have c4b1 : (t254 != 0) = true := bne_iff_ne.mpr c4
    obtain rfl := Option.some.inj H
    go_enter Tryd.func52, Tryd.ntmps52
    go_wp2_with (first | ((with_reducible refine gate_dst (N := 2) rfl ?_); refine box_event ?hg (N := 2) ?hd (cs := #[.slice A0_0 l0_0.length c0_0, .slice A0_1 l0_1.length c0_1, .slice A0_2 l0_2.length c0_2]) (t := 26) ?hr ?_; (case hd => rfl); (case hg => rfl); (case hr => first | (go_simp; done) | (go_simp; rfl)); intro gb253 hg w12 hbox hb; have n0_ := Aside0.mk (below_step (by repeat (first | (with_reducible first | exact HB.out | apply below_alloc | apply pw_below_drewN | apply below_drew1) | exact HB.out)) hb); have n1_ := Aside0.mk (hbox); have n2_ := Aside0.mk ((by rw [hg]; exact (below_size (by repeat (first | (with_reducible first | exact HB.out | apply below_alloc | apply pw_below_drewN | apply below_drew1) | exact HB.out))) : w.heap.size ≤ gb253)); have n3_ := Aside0.mk ((by rw [hg]; exact (below_size (by repeat (first | (with_reducible first | exact HB.out | apply below_alloc | apply pw_below_drewN | apply below_drew1) | exact HB.out))) : w.heap.size ≤ gb253)); clear HB; have HB := n0_; have BK253 := n1_; have GW253 := n2_; have GE253 := n3_; clear n0_ n1_ n2_ n3_; clear hb hbox hg; have hcz13_0 : w12.cell? ⟨gb253, 0, none⟩ = some (.slice A0_0 l0_0.length c0_0) := (blk_cell BK253.out 0).trans rfl; have hcz13_1 : w12.cell? ⟨gb253, 1, none⟩ = some (.slice A0_1 l0_1.length c0_1) := (blk_cell BK253.out 1).trans rfl; have hcz13_2 : w12.cell? ⟨gb253, 2, none⟩ = some (.slice A0_2 l0_2.length c0_2) := (blk_cell BK253.out 2).trans rfl; have hfz13_0 := blk_frozen BK253.out 0; have hfz13_1 := blk_frozen BK253.out 1; have hfz13_2 := blk_frozen BK253.out 2) | ((with_reducible refine gate_callee (f := 47) rfl ?_); refine goesL_ (some 7) rfl rfl Tryd.func47 (by kernel_rfl) rfl #[.agg #[.slice A0_0 l0_0.length c0_0, .slice A0_1 l0_1.length c0_1, .slice A0_2 l0_2.length c0_2]] rfl (by (try simp only [List.map_toArray, List.map_cons, List.map_nil]); first | done | rfl | (simp only [List.length_drop, List.length_take]; rfl)) ?_; (with_reducible refine (wishbookref10_Check.calls _ _ l0_0 _ _ l0_1 _ _ l0_2 t254 _ ?side1 ?side2 ?side3 ?side4 ?side5 ?side6 A3.out).mono ?_); (case side1 => repeat (first | exact (Kd.C_below HR0_0.out HB.out) | (with_reducible refine Kd.C_alloc ?_ _) | (with_reducible refine Kd.C_drewN ?_ _) | (with_reducible refine Kd.C_drew ?_))); (case side2 => exact HC0_0.out); (case side3 => repeat (first | exact (Kd.C_below HR0_1.out HB.out) | (with_reducible refine Kd.C_alloc ?_ _) | (with_reducible refine Kd.C_drewN ?_ _) | (with_reducible refine Kd.C_drew ?_))); (case side4 => exact HC0_1.out); (case side5 => repeat (first | exact (Kd.C_below HR0_2.out HB.out) | (with_reducible refine Kd.C_alloc ?_ _) | (with_reducible refine Kd.C_drewN ?_ _) | (with_reducible refine Kd.C_drew ?_))); (case side6 => exact HC0_2.out); rintro e w14 ⟨rfl, hb⟩; refine ⟨_, rfl, ?_⟩; have n0_ := Aside0.mk (blk_below (g := gb253) (o := .cells #[.slice A0_0 l0_0.length c0_0, .slice A0_1 l0_1.length c0_1, .slice A0_2 l0_2.length c0_2] 26 (0, 0)) (by (with_reducible repeat (first | refine blk_drewN ?_ _ | refine blk_drew ?_ | refine blk_alloc ?_ _)); exact BK253.out) hb); have n1_ := Aside0.mk (below_step (by repeat (first | (with_reducible first | exact HB.out | apply below_alloc | apply pw_below_drewN | apply below_drew1 | refine below_set ?_ GE253.out) | exact HB.out)) hb); clear BK253; clear HB; have BK253 := n0_; have HB := n1_; clear n0_ n1_; (try clear hb); (try clear hb2); (try clear hk); (try clear hi)))
    go_ret
    exact ⟨by first | rfl | (simp [errW_none, errW_some] <;> rfl) | (simp [*, errW_none, errW_some] <;> rfl), by repeat (first | (with_reducible first | exact HB.out | apply below_alloc | apply pw_below_drewN | apply below_drew1 | refine below_set ?_ GE253.out) | exact HB.out)⟩
end Go.Proofs.YtegpepnmnlockaaDoor.PL
namespace Go.Proofs.YtegpepnmnlockaaDoor.PL
open Go.RowKit Go.Proofs.YtegpepnmnlockaaDoorW.PrintWords Go.Proofs.YtegpepnmnlockaaDoorW.PrintLast Go.Proofs.YtegpepnmnlockaaDoorW.PrintMore
attribute [local go_sem] max2_int min2_int max_two min_two max_three min_three max_four min_four   -- for this text's walks alone
set_option linter.unusedVariables false
set_option linter.unusedSimpArgs false
def wishbookref10_list.l0 : Nat → List (S49) → List Int → Int → Option (List Int)
  | 0, _, _, _ => none
  | k + 1, x3, x5, x6 => if x6 < (x3.length : Int) then (if 0 ≤ x6 then (if x5.length < 17592186044416 then (wishbookref10_list.l0 k x3 (x5 ++ [(rd_T49 x3 x6).f2]) (wrap64 (x6 + 1))) else (none)) else (none)) else (some x5)
def wishbookref10_list.f (k : Nat) (l0_0 : List Int) (l0_1 : List (S47)) (l0_2 : List (S57)) : Option (List Int) := (wishbookref10_served.f l0_0 l0_1 l0_2).bind fun bt327 => (wishbookref10_list.l0 k bt327.1 ([] : List Int) 0)
theorem wishbookref10_list.mono_l : ∀ k, (∀ y0 y1 y2, LeO (wishbookref10_list.l0 k y0 y1 y2) (wishbookref10_list.l0 (k + 1) y0 y1 y2))
  | 0 => fun _ _ _ r h => by simp [wishbookref10_list.l0] at h
  | k + 1 => by
    have ih0 := wishbookref10_list.mono_l k
    · intro y0 y1 y2
      unfold wishbookref10_list.l0
      repeat' first
      | (with_reducible exact ih0 _ _ _)
      | (with_reducible exact LeO.refl _)
      | (with_reducible exact LeO.none _)
      | (with_reducible refine LeO.ite ?_ ?_)
      | (with_reducible refine LeO.bind ?_ (fun _ => ?_))
      | exact ih0 _ _ _
      | exact LeO.none _
      | refine LeO.ite ?_ ?_
      | refine LeO.bind ?_ (fun _ => ?_)
theorem wishbookref10_list.mono : ∀ a0 a1 a2 k, LeO (wishbookref10_list.f k a0 a1 a2) (wishbookref10_list.f (k + 1) a0 a1 a2) := by
  intro a0 a1 a2 k
  have ih0 := wishbookref10_list.mono_l k
  unfold wishbookref10_list.f
  repeat' first
      | (with_reducible exact ih0 _ _ _)
      | (with_reducible exact LeO.refl _)
      | (with_reducible exact LeO.none _)
      | (with_reducible refine LeO.ite ?_ ?_)
      | (with_reducible refine LeO.bind ?_ (fun _ => ?_))
      | exact ih0 _ _ _
      | exact LeO.none _
      | refine LeO.ite ?_ ?_
      | refine LeO.bind ?_ (fun _ => ?_)
set_option maxHeartbeats 8000000 in
set_option maxRecDepth 100000 in
theorem wishbookref10_list.calls (k : Nat) (A0_0 : Option Addr) (c0_0 : Nat) (l0_0 : List Int) (A0_1 : Option Addr) (c0_1 : Nat) (l0_1 : List (S47)) (A0_2 : Option Addr) (c0_2 : Nat) (l0_2 : List (S57)) (r : List Int) (w : World) (hr0_0 : Kd.C (Kd.int .i64) w A0_0 l0_0.length l0_0) (hc0_0 : l0_0.length ≤ c0_0) (hr0_1 : Kd.C k47 w A0_1 l0_1.length l0_1) (hc0_1 : l0_1.length ≤ c0_1) (hr0_2 : Kd.C k57 w A0_2 l0_2.length l0_2) (hc0_2 : l0_2.length ≤ c0_2) (h : wishbookref10_list.f k l0_0 l0_1 l0_2 = some r) :
    Calls Tryd.prog 59 #[.agg #[.slice A0_0 l0_0.length c0_0, .slice A0_1 l0_1.length c0_1, .slice A0_2 l0_2.length c0_2]] w fun e w' => ∃ v0_ : Value, e = .returned (v0_) ∧ Kd.R (Kd.int .i64) 3 w' w.heap.size (fun _ => True) v0_ r ∧ Below w.heap.size w w' := by
  have hu26 := Tryd.underlying26
  have HR0_0 := Aside0.mk hr0_0
  have HC0_0 := Aside0.mk hc0_0
  clear hr0_0 hc0_0
  have HR0_1 := Aside0.mk hr0_1
  have HC0_1 := Aside0.mk hc0_1
  clear hr0_1 hc0_1
  have HR0_2 := Aside0.mk hr0_2
  have HC0_2 := Aside0.mk hc0_2
  clear hr0_2 hc0_2
  have HB := Aside0.mk (Below.refl w.heap.size w)
  have H : ((wishbookref10_served.f l0_0 l0_1 l0_2).bind fun bt327 => (wishbookref10_list.l0 k bt327.1 ([] : List Int) 0)) = some r := h
  clear h
  replace H := Option.bind_eq_some_iff.mp H
  obtain ⟨⟨t327, t330⟩, A20, H⟩ := H
  replace H : (wishbookref10_list.l0 k t327 ([] : List Int) 0) = some r := H
  have A2 := Aside0.mk A20
  clear A20
  have H' := Aside0.mk H
  clear H
  go_enter Tryd.func59, Tryd.ntmps59
  go_wp2_with (first | ((with_reducible refine gate_dst (N := 1) rfl ?_); refine box_event ?hg (N := 1) ?hd (cs := #[.slice A0_0 l0_0.length c0_0, .slice A0_1 l0_1.length c0_1, .slice A0_2 l0_2.length c0_2]) (t := 26) ?hr ?_; (case hd => rfl); (case hg => rfl); (case hr => first | (go_simp; done) | (go_simp; rfl)); intro gb326 hg w3 hbox hb; have n0_ := Aside0.mk (below_step (by repeat (first | (with_reducible first | exact HB.out | apply below_alloc | apply pw_below_drewN | apply below_drew1) | exact HB.out)) hb); have n1_ := Aside0.mk (hbox); have n2_ := Aside0.mk ((by rw [hg]; exact (below_size (by repeat (first | (with_reducible first | exact HB.out | apply below_alloc | apply pw_below_drewN | apply below_drew1) | exact HB.out))) : w.heap.size ≤ gb326)); have n3_ := Aside0.mk ((by rw [hg]; exact (below_size (by repeat (first | (with_reducible first | exact HB.out | apply below_alloc | apply pw_below_drewN | apply below_drew1) | exact HB.out))) : w.heap.size ≤ gb326)); clear HB; have HB := n0_; have BK326 := n1_; have GW326 := n2_; have GE326 := n3_; clear n0_ n1_ n2_ n3_; clear hb hbox hg; have hcz4_0 : w3.cell? ⟨gb326, 0, none⟩ = some (.slice A0_0 l0_0.length c0_0) := (blk_cell BK326.out 0).trans rfl; have hcz4_1 : w3.cell? ⟨gb326, 1, none⟩ = some (.slice A0_1 l0_1.length c0_1) := (blk_cell BK326.out 1).trans rfl; have hcz4_2 : w3.cell? ⟨gb326, 2, none⟩ = some (.slice A0_2 l0_2.length c0_2) := (blk_cell BK326.out 2).trans rfl; have hfz4_0 := blk_frozen BK326.out 0; have hfz4_1 := blk_frozen BK326.out 1; have hfz4_2 := blk_frozen BK326.out 2) | ((with_reducible refine gate_callee (f := 48) rfl ?_); refine goesL_ (some 9) rfl rfl Tryd.func48 (by kernel_rfl) rfl #[.agg #[.slice A0_0 l0_0.length c0_0, .slice A0_1 l0_1.length c0_1, .slice A0_2 l0_2.length c0_2]] rfl (by (try simp only [List.map_toArray, List.map_cons, List.map_nil]); first | done | rfl | (simp only [List.length_drop, List.length_take]; rfl)) ?_; (with_reducible refine (wishbookref10_served.calls _ _ l0_0 _ _ l0_1 _ _ l0_2 t327 t330 _ ?side1 ?side2 ?side3 ?side4 ?side5 ?side6 A2.out).mono ?_); (case side1 => repeat (first | exact (Kd.C_below HR0_0.out HB.out) | (with_reducible refine Kd.C_alloc ?_ _) | (with_reducible refine Kd.C_drewN ?_ _) | (with_reducible refine Kd.C_drew ?_))); (case side2 => exact HC0_0.out); (case side3 => repeat (first | exact (Kd.C_below HR0_1.out HB.out) | (with_reducible refine Kd.C_alloc ?_ _) | (with_reducible refine Kd.C_drewN ?_ _) | (with_reducible refine Kd.C_drew ?_))); (case side4 => exact HC0_1.out); (case side5 => repeat (first | exact (Kd.C_below HR0_2.out HB.out) | (with_reducible refine Kd.C_alloc ?_ _) | (with_reducible refine Kd.C_drewN ?_ _) | (with_reducible refine Kd.C_drew ?_))); (case side6 => exact HC0_2.out); rintro e w5 ⟨v328, v331, rfl, ho0, ho1, hb⟩; refine ⟨_, rfl, ?_⟩; have n0_ := Aside0.mk (Kd.R_lower ho0 (below_size (by repeat (first | (with_reducible first | exact HB.out | apply below_alloc | apply pw_below_drewN | apply below_drew1 | refine below_set ?_ GE326.out) | exact HB.out)))); have n1_ := Aside0.mk (Kd.R_lower ho1 (below_size (by repeat (first | (with_reducible first | exact HB.out | apply below_alloc | apply pw_below_drewN | apply below_drew1 | refine below_set ?_ GE326.out) | exact HB.out)))); have n2_ := Aside0.mk (blk_below (g := gb326) (o := .cells #[.slice A0_0 l0_0.length c0_0, .slice A0_1 l0_1.length c0_1, .slice A0_2 l0_2.length c0_2] 26 (0, 0)) (by (with_reducible repeat (first | refine blk_drewN ?_ _ | refine blk_drew ?_ | refine blk_alloc ?_ _)); exact BK326.out) hb); have n3_ := Aside0.mk (below_step (by repeat (first | (with_reducible first | exact HB.out | apply below_alloc | apply pw_below_drewN | apply below_drew1 | refine below_set ?_ GE326.out) | exact HB.out)) hb); clear BK326; clear HB; have HO329 := n0_; have HO332 := n1_; have BK326 := n2_; have HB := n3_; clear n0_ n1_ n2_ n3_; (try clear hb); (try clear hb2); (try clear hk); (try clear hi); (try clear ho0); (try clear ho1)))
  go_loopg [5, 6] k (fun kq v5 v6 w' => ∃ (x5_1 : List Int) (x6_1 : Int), v6 = .int .i64 x6_1 ∧ Aside0 (wishbookref10_list.l0 kq t327 x5_1 x6_1 = some r) ∧ Aside0 (kq ≤ k) ∧ Aside0 (Kd.R k49 49 w' w.heap.size (fun _ => True) v328 t327) ∧ Aside0 (Kd.R (Kd.int .i64) 3 w' w.heap.size (fun _ => True) v5 x5_1) ∧ Aside0 (w'.heap[gb326]? = some (.cells #[(.slice A0_0 l0_0.length c0_0), (.slice A0_1 l0_1.length c0_1), (.slice A0_2 l0_2.length c0_2)] 26 (0, 0))) ∧ Aside0 (Below w.heap.size w w'))
  case atStart => exact ⟨(([] : List Int)), (0), (by first | rfl | (simp; done) | (simp [*]; done)), H', ⟨Nat.le_refl _⟩, ⟨by (with_reducible repeat (first | apply Kd.R_alloc | apply Kd.R_drewN | apply Kd.R_drew)); exact HO329.out⟩, ⟨by first | exact Kd.R_nil _ _ _ _ _ | exact Kd.N_nil _ _ _ _ _ | exact Kd.V_nil _ _ _ _ _ | exact Kd.Q_nil _ _ _ _ _ | exact Kd.S_nil _ _ _ _ _⟩, ⟨by (with_reducible repeat (first | refine blk_drewN ?_ _ | refine blk_drew ?_ | refine blk_alloc ?_ _)); exact BK326.out⟩, ⟨by repeat (first | (with_reducible first | exact HB.out | apply below_alloc | apply pw_below_drewN | apply below_drew1 | refine below_set ?_ GE326.out) | exact HB.out)⟩⟩
  case round =>
    clear H'
    try clear p2
    try clear c4
    try clear c5
    try clear hcz4_0
    try clear hcz4_1
    try clear hcz4_2
    try clear hfz4_0
    try clear hfz4_1
    try clear hfz4_2
    obtain ⟨x5_1, x6_1, rfl, HA, HK1, HO_3, HO_5, BK326, HB⟩ := hrel
    cases gk with
    | zero => exact absurd HA.out (by simp [wishbookref10_list.l0])
    | succ k1 =>
      have H := HA.out
      clear HA
      simp only [wishbookref10_list.l0] at H
      by_cases c6 : x6_1 < (t327.length : Int)
      · rw [if_pos c6] at H
        have c6b0 : decide (x6_1 < (t327.length : Int)) = true := decide_eq_true c6
        clear c6
        by_cases c7 : 0 ≤ x6_1
        · rw [if_pos c7] at H
          have c7b0 : decide (0 ≤ x6_1) = true := decide_eq_true c7
          clear c7
          by_cases c8 : x5_1.length < 17592186044416
          · rw [if_pos c8] at H
            have LMc8 := Aside0.mk c8
            clear c8
            obtain ⟨y334, hy334⟩ : ∃ y_ : List Int, y_ = (x5_1 ++ [(rd_T49 t327 x6_1).f2]) := ⟨_, rfl⟩
            replace H : (wishbookref10_list.l0 k1 t327 y334 (wrap64 (x6_1 + 1))) = some r := by first | (rw [hy334]; with_reducible exact H) | (have H2_ := (Option.bind_some _ _).symm.trans H; rw [hy334]; with_reducible exact H2_) | (have H2_ := (Option.bind_some _ _).symm.trans H; with_reducible exact H2_) | with_reducible exact H | (rw [hy334]; exact H) | exact H
            have Ny334 := Aside0.mk hy334
            clear hy334
            have H' := Aside0.mk H
            clear H
            obtain ⟨Ao9, co9, eo9⟩ := Kd.R_slice HO_3.out
            subst eo9
            have p333 : 0 ≤ (x6_1 : Int) := of_decide_eq_true (by first | (with_reducible assumption) | assumption)
            have q333 : x6_1 < (t327.length : Int) := of_decide_eq_true (by first | (with_reducible assumption) | assumption)
            obtain ⟨ad333, e333, hx333_0, hx333_1, hx333_2, hx333_3⟩ := at_T49 (Kd.R_reads' HO_3.out).2.2 x6_1 p333 q333
            cases e333
            replace p333 := eq_true p333
            replace q333 := eq_true q333
            go_wp2_with (first | ((with_reducible refine gate_builtin (b := .append) (xs := #[.tmp 18, .tmp 24]) rfl ?_); at_builtin; refine Kd.R_append (Kd.int .i64) (w0 := w) w.heap.size rfl (.tmp 18) (.tmp 24) 22 3 (.int .i64 0) 8 rfl Tryd.underlying22 info3 rfl (by decide) (by omega) u5 x5_1 ((rd_T49 t327 x6_1).f2) [.int .i64 ((rd_T49 t327 x6_1).f2)] (fun _ => True) (fun _ => False) rfl rfl ?aP (fun _ hk => hk.elim) ?aF ?aO ?aB ?aS ?aL ?_; (case aP => exact rfl); (case aB => exact (by repeat (first | (with_reducible first | exact HB.out | apply below_alloc | apply pw_below_drewN | apply below_drew1 | refine below_set ?_ GE326.out) | exact HB.out))); (case aF => exact (fun _ _ => trivial)); (case aO => exact (by (with_reducible repeat (first | apply Kd.R_alloc | apply Kd.R_drewN | apply Kd.R_drew)); exact HO_5.out)); (case aS => exact (below_size (by repeat (first | (with_reducible first | exact HB.out | apply below_alloc | apply pw_below_drewN | apply below_drew1 | refine below_set ?_ GE326.out) | exact HB.out)))); (case aL => have := LMc8.out; omega); intro v335 w10 ho hb hg hat; rw [← Ny334.out] at ho; have n0_ := Aside0.mk (Kd.R_over' (by (with_reducible repeat (first | apply Kd.R_alloc | apply Kd.R_drewN | apply Kd.R_drew)); exact HO_3.out) (Kd.R_typed (by (with_reducible repeat (first | apply Kd.R_alloc | apply Kd.R_drewN | apply Kd.R_drew)); exact HO_5.out)) (by decide) hg); have n1_ := Aside0.mk (blk_grown (g := gb326) (o := .cells #[.slice A0_0 l0_0.length c0_0, .slice A0_1 l0_1.length c0_1, .slice A0_2 l0_2.length c0_2] 26 (0, 0)) (by (with_reducible repeat (first | refine blk_drewN ?_ _ | refine blk_drew ?_ | refine blk_alloc ?_ _)); exact BK326.out) hg (Kd.R_ne HO_5.out BK326.out (by decide))); have n2_ := Aside0.mk (hb); have n3_ := Aside0.mk (ho); clear HO_3; clear BK326; clear HB; clear HO_5; have HO_3 := n0_; have BK326 := n1_; have HB := n2_; have HO336 := n3_; clear n0_ n1_ n2_ n3_; clear ho hb hg hat))
            go_roundg k1
            case measure => have := HK1.out; omega
            case rel => exact ⟨(y334), (wrap64 (x6_1 + 1)), (by first | rfl | (simp; done) | (simp [*]; done)), H', ⟨by have := HK1.out; omega⟩, ⟨by (with_reducible repeat (first | apply Kd.R_alloc | apply Kd.R_drewN | apply Kd.R_drew)); exact HO_3.out⟩, ⟨by (with_reducible repeat (first | apply Kd.R_alloc | apply Kd.R_drewN | apply Kd.R_drew)); exact HO336.out⟩, ⟨by (with_reducible repeat (first | refine blk_drewN ?_ _ | refine blk_drew ?_ | refine blk_alloc ?_ _)); exact BK326.out⟩, ⟨by repeat (first | (with_reducible first | exact HB.out | apply below_alloc | apply pw_below_drewN | apply below_drew1 | refine below_set ?_ GE326.out) | exact HB.out)⟩⟩
          · rw [if_neg c8] at H
            exact absurd H (by simp)
        · rw [if_neg c7] at H
          exact absurd H (by simp)
      · rw [if_neg c6] at H
        have c6b0 : decide (x6_1 < (t327.length : Int)) = false := decide_eq_false c6
        clear c6
        obtain rfl := Option.some.inj H
        obtain ⟨Ao11, co11, eo11⟩ := Kd.R_slice HO_3.out
        subst eo11
        go_wp2
        go_ret
        exact ⟨_, by first | rfl | (simp [errW_none, errW_some] <;> rfl) | (simp [*, errW_none, errW_some] <;> rfl), by (with_reducible repeat (first | apply Kd.R_alloc | apply Kd.R_drewN | apply Kd.R_drew)); exact HO_5.out, by repeat (first | (with_reducible first | exact HB.out | apply below_alloc | apply pw_below_drewN | apply below_drew1 | refine below_set ?_ GE326.out) | exact HB.out)⟩
def wishbookref10_keeps.l0 : Nat → List Int → Int → List Int → List (S47) → List (S57) → Option (Bool)
  | 0, _, _, _, _, _ => none
  | k + 1, x1, x5, x338000, x338001, x338002 => if x5 < (x338000.length : Int) then ((wishbookref10_kept.f k x338000 x338001 x338002 x5 x1).bind fun t338 => (if t338 = true then (wishbookref10_keeps.l0 k x1 (wrap64 (x5 + 1)) x338000 x338001 x338002) else (some false))) else (some true)
def wishbookref10_keeps.f (k : Nat) (l0_0 : List Int) (l0_1 : List (S47)) (l0_2 : List (S57)) (l1 : List Int) : Option (Bool) := wishbookref10_keeps.l0 k l1 0 l0_0 l0_1 l0_2
theorem wishbookref10_keeps.mono_l : ∀ k, (∀ y0 y1 y2 y3 y4, LeO (wishbookref10_keeps.l0 k y0 y1 y2 y3 y4) (wishbookref10_keeps.l0 (k + 1) y0 y1 y2 y3 y4))
  | 0 => fun _ _ _ _ _ r h => by simp [wishbookref10_keeps.l0] at h
  | k + 1 => by
    have ih0 := wishbookref10_keeps.mono_l k
    · intro y0 y1 y2 y3 y4
      unfold wishbookref10_keeps.l0
      repeat' first
      | (with_reducible exact ih0 _ _ _ _ _)
      | (with_reducible exact wishbookref10_kept.mono _ _ _ _ _ _)
      | (with_reducible exact LeO.refl _)
      | (with_reducible exact LeO.none _)
      | (with_reducible refine LeO.ite ?_ ?_)
      | (with_reducible refine LeO.bind ?_ (fun _ => ?_))
      | exact ih0 _ _ _ _ _
      | exact wishbookref10_kept.mono _ _ _ _ _ _
      | exact LeO.none _
      | refine LeO.ite ?_ ?_
      | refine LeO.bind ?_ (fun _ => ?_)
theorem wishbookref10_keeps.mono : ∀ a0 a1 a2 a3 k, LeO (wishbookref10_keeps.f k a0 a1 a2 a3) (wishbookref10_keeps.f (k + 1) a0 a1 a2 a3) := by
  intro a0 a1 a2 a3 k
  have ih0 := wishbookref10_keeps.mono_l k
  unfold wishbookref10_keeps.f
  repeat' first
      | (with_reducible exact ih0 _ _ _ _ _)
      | (with_reducible exact wishbookref10_kept.mono _ _ _ _ _ _)
      | (with_reducible exact LeO.refl _)
      | (with_reducible exact LeO.none _)
      | (with_reducible refine LeO.ite ?_ ?_)
      | (with_reducible refine LeO.bind ?_ (fun _ => ?_))
      | exact ih0 _ _ _ _ _
      | exact wishbookref10_kept.mono _ _ _ _ _ _
      | exact LeO.none _
      | refine LeO.ite ?_ ?_
      | refine LeO.bind ?_ (fun _ => ?_)
set_option maxHeartbeats 8000000 in
set_option maxRecDepth 100000 in
theorem wishbookref10_keeps.calls (k : Nat) (A0_0 : Option Addr) (c0_0 : Nat) (l0_0 : List Int) (A0_1 : Option Addr) (c0_1 : Nat) (l0_1 : List (S47)) (A0_2 : Option Addr) (c0_2 : Nat) (l0_2 : List (S57)) (A1 : Option Addr) (c1 : Nat) (l1 : List Int) (r : Bool) (w : World) (hr0_0 : Kd.C (Kd.int .i64) w A0_0 l0_0.length l0_0) (hc0_0 : l0_0.length ≤ c0_0) (hr0_1 : Kd.C k47 w A0_1 l0_1.length l0_1) (hc0_1 : l0_1.length ≤ c0_1) (hr0_2 : Kd.C k57 w A0_2 l0_2.length l0_2) (hc0_2 : l0_2.length ≤ c0_2) (hr1 : Kd.C (Kd.int .i64) w A1 l1.length l1) (hc1 : l1.length ≤ c1) (h : wishbookref10_keeps.f k l0_0 l0_1 l0_2 l1 = some r) :
    Calls Tryd.prog 60 #[.agg #[.slice A0_0 l0_0.length c0_0, .slice A0_1 l0_1.length c0_1, .slice A0_2 l0_2.length c0_2], .slice A1 l1.length c1] w fun e w' => e = .returned (.bool r) ∧ Below w.heap.size w w' := by
  have hu26 := Tryd.underlying26
  have HR0_0 := Aside0.mk hr0_0
  have HC0_0 := Aside0.mk hc0_0
  clear hr0_0 hc0_0
  have HR0_1 := Aside0.mk hr0_1
  have HC0_1 := Aside0.mk hc0_1
  clear hr0_1 hc0_1
  have HR0_2 := Aside0.mk hr0_2
  have HC0_2 := Aside0.mk hc0_2
  clear hr0_2 hc0_2
  have HR1 := Aside0.mk hr1
  have HC1 := Aside0.mk hc1
  clear hr1 hc1
  have HB := Aside0.mk (Below.refl w.heap.size w)
  have H : (wishbookref10_keeps.l0 k l1 0 l0_0 l0_1 l0_2) = some r := h
  clear h
  have H' := Aside0.mk H
  clear H
  go_enter Tryd.func60, Tryd.ntmps60
  go_wp2_with (first | ((with_reducible refine gate_dst (N := 2) rfl ?_); refine box_event ?hg (N := 2) ?hd (cs := #[.slice A0_0 l0_0.length c0_0, .slice A0_1 l0_1.length c0_1, .slice A0_2 l0_2.length c0_2]) (t := 26) ?hr ?_; (case hd => rfl); (case hg => rfl); (case hr => first | (go_simp; done) | (go_simp; rfl)); intro gb337 hg w3 hbox hb; have n0_ := Aside0.mk (below_step (by repeat (first | (with_reducible first | exact HB.out | apply below_alloc | apply pw_below_drewN | apply below_drew1) | exact HB.out)) hb); have n1_ := Aside0.mk (hbox); have n2_ := Aside0.mk ((by rw [hg]; exact (below_size (by repeat (first | (with_reducible first | exact HB.out | apply below_alloc | apply pw_below_drewN | apply below_drew1) | exact HB.out))) : w.heap.size ≤ gb337)); have n3_ := Aside0.mk ((by rw [hg]; exact (below_size (by repeat (first | (with_reducible first | exact HB.out | apply below_alloc | apply pw_below_drewN | apply below_drew1) | exact HB.out))) : w.heap.size ≤ gb337)); clear HB; have HB := n0_; have BK337 := n1_; have GW337 := n2_; have GE337 := n3_; clear n0_ n1_ n2_ n3_; clear hb hbox hg))
  go_loopg [5] k (fun kq v5 w' => ∃ (x5_1 : Int), v5 = .int .i64 x5_1 ∧ Aside0 (wishbookref10_keeps.l0 kq l1 x5_1 l0_0 l0_1 l0_2 = some r) ∧ Aside0 (kq ≤ k) ∧ Aside0 (w'.heap[gb337]? = some (.cells #[(.slice A0_0 l0_0.length c0_0), (.slice A0_1 l0_1.length c0_1), (.slice A0_2 l0_2.length c0_2)] 26 (0, 0))) ∧ Aside0 (Below w.heap.size w w'))
  case atStart => exact ⟨(0), (by first | rfl | (simp; done) | (simp [*]; done)), H', ⟨Nat.le_refl _⟩, ⟨by (with_reducible repeat (first | refine blk_drewN ?_ _ | refine blk_drew ?_ | refine blk_alloc ?_ _)); exact BK337.out⟩, ⟨by repeat (first | (with_reducible first | exact HB.out | apply below_alloc | apply pw_below_drewN | apply below_drew1 | refine below_set ?_ GE337.out) | exact HB.out)⟩⟩
  case round =>
    clear H'
    try clear c1
    try clear p2
    obtain ⟨x5_1, rfl, HA, HK1, BK337, HB⟩ := hrel
    cases gk with
    | zero => exact absurd HA.out (by simp [wishbookref10_keeps.l0])
    | succ k1 =>
      have H := HA.out
      clear HA
      simp only [wishbookref10_keeps.l0] at H
      by_cases c4 : x5_1 < (l0_0.length : Int)
      · rw [if_pos c4] at H
        have c4b0 : decide (x5_1 < (l0_0.length : Int)) = true := decide_eq_true c4
        clear c4
        replace H := Option.bind_eq_some_iff.mp H
        obtain ⟨t338, A50, H⟩ := H
        replace H : (if t338 = true then (wishbookref10_keeps.l0 k1 l1 (wrap64 (x5_1 + 1)) l0_0 l0_1 l0_2) else (some false)) = some r := H
        have A5 := Aside0.mk A50
        clear A50
        by_cases c6 : t338 = true
        · subst c6
          have H1 : (wishbookref10_keeps.l0 k1 l1 (wrap64 (x5_1 + 1)) l0_0 l0_1 l0_2) = some r := by rw [if_pos rfl] at H; exact H
          clear H
          have H := H1
          clear H1
          have H' := Aside0.mk H
          clear H
          have hcz7_0 : wr.cell? ⟨gb337, 0, none⟩ = some (.slice A0_0 l0_0.length c0_0) := (blk_cell BK337.out 0).trans rfl
          have hcz7_1 : wr.cell? ⟨gb337, 1, none⟩ = some (.slice A0_1 l0_1.length c0_1) := (blk_cell BK337.out 1).trans rfl
          have hcz7_2 : wr.cell? ⟨gb337, 2, none⟩ = some (.slice A0_2 l0_2.length c0_2) := (blk_cell BK337.out 2).trans rfl
          have hfz7_0 := blk_frozen BK337.out 0
          have hfz7_1 := blk_frozen BK337.out 1
          have hfz7_2 := blk_frozen BK337.out 2
          go_wp2_with (first | ((with_reducible refine gate_callee (f := 63) rfl ?_); refine goesL_ (some 16) rfl rfl Tryd.func63 (by kernel_rfl) rfl #[.agg #[.slice A0_0 l0_0.length c0_0, .slice A0_1 l0_1.length c0_1, .slice A0_2 l0_2.length c0_2], .int .i64 x5_1, .slice A1 l1.length c1] rfl (by (try simp only [List.map_toArray, List.map_cons, List.map_nil]); first | done | rfl | (simp only [List.length_drop, List.length_take]; rfl)) ?_; (with_reducible refine (wishbookref10_kept.calls k1 _ _ l0_0 _ _ l0_1 _ _ l0_2 x5_1 _ _ l1 true _ ?side1 ?side2 ?side3 ?side4 ?side5 ?side6 ?side7 ?side8 A5.out).mono ?_); (case side1 => repeat (first | exact (Kd.C_below HR0_0.out HB.out) | (with_reducible refine Kd.C_alloc ?_ _) | (with_reducible refine Kd.C_drewN ?_ _) | (with_reducible refine Kd.C_drew ?_))); (case side2 => exact HC0_0.out); (case side3 => repeat (first | exact (Kd.C_below HR0_1.out HB.out) | (with_reducible refine Kd.C_alloc ?_ _) | (with_reducible refine Kd.C_drewN ?_ _) | (with_reducible refine Kd.C_drew ?_))); (case side4 => exact HC0_1.out); (case side5 => repeat (first | exact (Kd.C_below HR0_2.out HB.out) | (with_reducible refine Kd.C_alloc ?_ _) | (with_reducible refine Kd.C_drewN ?_ _) | (with_reducible refine Kd.C_drew ?_))); (case side6 => exact HC0_2.out); (case side7 => repeat (first | exact (Kd.C_below HR1.out HB.out) | (with_reducible refine Kd.C_alloc ?_ _) | (with_reducible refine Kd.C_drewN ?_ _) | (with_reducible refine Kd.C_drew ?_))); (case side8 => exact HC1.out); rintro e w8 ⟨rfl, hb⟩; refine ⟨_, rfl, ?_⟩; have n0_ := Aside0.mk (blk_below (g := gb337) (o := .cells #[.slice A0_0 l0_0.length c0_0, .slice A0_1 l0_1.length c0_1, .slice A0_2 l0_2.length c0_2] 26 (0, 0)) (by (with_reducible repeat (first | refine blk_drewN ?_ _ | refine blk_drew ?_ | refine blk_alloc ?_ _)); exact BK337.out) hb); have n1_ := Aside0.mk (below_step (by repeat (first | (with_reducible first | exact HB.out | apply below_alloc | apply pw_below_drewN | apply below_drew1 | refine below_set ?_ GE337.out) | exact HB.out)) hb); clear BK337; clear HB; have BK337 := n0_; have HB := n1_; clear n0_ n1_; (try clear hb); (try clear hb2); (try clear hk); (try clear hi)))
          go_roundg k1
          case measure => have := HK1.out; omega
          case rel => exact ⟨(wrap64 (x5_1 + 1)), (by first | rfl | (simp; done) | (simp [*]; done)), H', ⟨by have := HK1.out; omega⟩, ⟨by (with_reducible repeat (first | refine blk_drewN ?_ _ | refine blk_drew ?_ | refine blk_alloc ?_ _)); exact BK337.out⟩, ⟨by repeat (first | (with_reducible first | exact HB.out | apply below_alloc | apply pw_below_drewN | apply below_drew1 | refine below_set ?_ GE337.out) | exact HB.out)⟩⟩
        · replace c6 := Bool.eq_false_iff.mpr c6
          subst c6
          have H1 : (some false) = some r := by rw [if_neg (show ¬ (false = true) by decide)] at H; exact H
          clear H
          have H := H1
          clear H1
          obtain rfl := Option.some.inj H
          have hcz9_0 : wr.cell? ⟨gb337, 0, none⟩ = some (.slice A0_0 l0_0.length c0_0) := (blk_cell BK337.out 0).trans rfl
          have hcz9_1 : wr.cell? ⟨gb337, 1, none⟩ = some (.slice A0_1 l0_1.length c0_1) := (blk_cell BK337.out 1).trans rfl
          have hcz9_2 : wr.cell? ⟨gb337, 2, none⟩ = some (.slice A0_2 l0_2.length c0_2) := (blk_cell BK337.out 2).trans rfl
          have hfz9_0 := blk_frozen BK337.out 0
          have hfz9_1 := blk_frozen BK337.out 1
          have hfz9_2 := blk_frozen BK337.out 2
          go_wp2_with (first | ((with_reducible refine gate_callee (f := 63) rfl ?_); refine goesL_ (some 16) rfl rfl Tryd.func63 (by kernel_rfl) rfl #[.agg #[.slice A0_0 l0_0.length c0_0, .slice A0_1 l0_1.length c0_1, .slice A0_2 l0_2.length c0_2], .int .i64 x5_1, .slice A1 l1.length c1] rfl (by (try simp only [List.map_toArray, List.map_cons, List.map_nil]); first | done | rfl | (simp only [List.length_drop, List.length_take]; rfl)) ?_; (with_reducible refine (wishbookref10_kept.calls k1 _ _ l0_0 _ _ l0_1 _ _ l0_2 x5_1 _ _ l1 false _ ?side1 ?side2 ?side3 ?side4 ?side5 ?side6 ?side7 ?side8 A5.out).mono ?_); (case side1 => repeat (first | exact (Kd.C_below HR0_0.out HB.out) | (with_reducible refine Kd.C_alloc ?_ _) | (with_reducible refine Kd.C_drewN ?_ _) | (with_reducible refine Kd.C_drew ?_))); (case side2 => exact HC0_0.out); (case side3 => repeat (first | exact (Kd.C_below HR0_1.out HB.out) | (with_reducible refine Kd.C_alloc ?_ _) | (with_reducible refine Kd.C_drewN ?_ _) | (with_reducible refine Kd.C_drew ?_))); (case side4 => exact HC0_1.out); (case side5 => repeat (first | exact (Kd.C_below HR0_2.out HB.out) | (with_reducible refine Kd.C_alloc ?_ _) | (with_reducible refine Kd.C_drewN ?_ _) | (with_reducible refine Kd.C_drew ?_))); (case side6 => exact HC0_2.out); (case side7 => repeat (first | exact (Kd.C_below HR1.out HB.out) | (with_reducible refine Kd.C_alloc ?_ _) | (with_reducible refine Kd.C_drewN ?_ _) | (with_reducible refine Kd.C_drew ?_))); (case side8 => exact HC1.out); rintro e w10 ⟨rfl, hb⟩; refine ⟨_, rfl, ?_⟩; have n0_ := Aside0.mk (blk_below (g := gb337) (o := .cells #[.slice A0_0 l0_0.length c0_0, .slice A0_1 l0_1.length c0_1, .slice A0_2 l0_2.length c0_2] 26 (0, 0)) (by (with_reducible repeat (first | refine blk_drewN ?_ _ | refine blk_drew ?_ | refine blk_alloc ?_ _)); exact BK337.out) hb); have n1_ := Aside0.mk (below_step (by repeat (first | (with_reducible first | exact HB.out | apply below_alloc | apply pw_below_drewN | apply below_drew1 | refine below_set ?_ GE337.out) | exact HB.out)) hb); clear BK337; clear HB; have BK337 := n0_; have HB := n1_; clear n0_ n1_; (try clear hb); (try clear hb2); (try clear hk); (try clear hi)))
          go_ret
          exact ⟨by first | rfl | (simp [errW_none, errW_some] <;> rfl) | (simp [*, errW_none, errW_some] <;> rfl), by repeat (first | (with_reducible first | exact HB.out | apply below_alloc | apply pw_below_drewN | apply below_drew1 | refine below_set ?_ GE337.out) | exact HB.out)⟩
      · rw [if_neg c4] at H
        have c4b0 : decide (x5_1 < (l0_0.length : Int)) = false := decide_eq_false c4
        clear c4
        obtain rfl := Option.some.inj H
        have hcz11_0 : wr.cell? ⟨gb337, 0, none⟩ = some (.slice A0_0 l0_0.length c0_0) := (blk_cell BK337.out 0).trans rfl
        have hcz11_1 : wr.cell? ⟨gb337, 1, none⟩ = some (.slice A0_1 l0_1.length c0_1) := (blk_cell BK337.out 1).trans rfl
        have hcz11_2 : wr.cell? ⟨gb337, 2, none⟩ = some (.slice A0_2 l0_2.length c0_2) := (blk_cell BK337.out 2).trans rfl
        have hfz11_0 := blk_frozen BK337.out 0
        have hfz11_1 := blk_frozen BK337.out 1
        have hfz11_2 := blk_frozen BK337.out 2
        go_wp2
        go_ret
        exact ⟨by first | rfl | (simp [errW_none, errW_some] <;> rfl) | (simp [*, errW_none, errW_some] <;> rfl), by repeat (first | (with_reducible first | exact HB.out | apply below_alloc | apply pw_below_drewN | apply below_drew1 | refine below_set ?_ GE337.out) | exact HB.out)⟩
end Go.Proofs.YtegpepnmnlockaaDoor.PL
namespace Go.Proofs.YtegpepnmnlockaaDoor.PL
open Go.RowKit Go.Proofs.YtegpepnmnlockaaDoorW.PrintWords Go.Proofs.YtegpepnmnlockaaDoorW.PrintLast Go.Proofs.YtegpepnmnlockaaDoorW.PrintMore
set_option linter.unusedVariables false
set_option linter.unusedSimpArgs false
set_option maxHeartbeats 8000000 in
set_option maxRecDepth 100000 in
theorem rLate_dead (A0 A1 A2 : Option Addr) (c0 c1 c2 : Nat) (l0 : List Int) (l1 : List S47) (l2 : List S57) (a1 : Int) (w : World) (h0 : Kd.C (Kd.int .i64) w A0 l0.length l0) (hc0 : l0.length ≤ c0) (h1 : Kd.C k47 w A1 l1.length l1) (hc1 : l1.length ≤ c1) (h2 : Kd.C k57 w A2 l2.length l2) (hc2 : l2.length ≤ c2) (hwn : IntKind.i64.wrap ((l2.length : Int) - 1) = (l2.length : Int) - 1) (rt : Bool) (re : Int) (ht : wishbookref00_Tween.f a1 0 ((l2.length : Int) - 1) = some rt) (ha : wishbookref10_asked.f l0 l1 l2 rt = some re) (hre : re ≠ 0) :
    Calls Tryd.prog 25 #[.agg #[.slice A0 l0.length c0, .slice A1 l1.length c1, .slice A2 l2.length c2], .int .i64 a1] w fun e w' => e = .returned (.tuple #[.int .i64 0, .int .i64 re]) ∧ Below w.heap.size w w' := by
  have HT := Aside0.mk ht
  have HA := Aside0.mk ha
  clear ht ha
  have hE : (re != 0) = true := bne_iff_ne.2 hre
  clear hre
  have H0' := Aside0.mk h0
  have H1' := Aside0.mk h1
  have H2' := Aside0.mk h2
  have HC0 := Aside0.mk hc0
  have HC1 := Aside0.mk hc1
  have HC2 := Aside0.mk hc2
  clear hc0 hc1 hc2 h0 h1 h2
  have hu26 := Tryd.underlying26
  have hu57 := Tryd.underlying57
  have hu55 := Tryd.underlying55
  have HX := Aside0.mk (heap_alloc_new w (.cells #[.slice A0 l0.length c0, .slice A1 l1.length c1, .slice A2 l2.length c2] 26))
  have HW := Aside0.mk (below_alloc (Below.refl w.heap.size w) (.cells #[.slice A0 l0.length c0, .slice A1 l1.length c1, .slice A2 l2.length c2] 26))
  have HWN := Aside0.mk hwn
  go_enter Tryd.func25, Tryd.ntmps25
  go_upto_region 1 with (fail)
  generalize w.alloc (.cells #[.slice A0 l0.length c0, .slice A1 l1.length c1, .slice A2 l2.length c2] 26) = W1 at HX HW ⊢
  have H0 := Aside0.mk (Kd.C_below H0'.out HW.out)
  have H1 := Aside0.mk (Kd.C_below H1'.out HW.out)
  have H2 := Aside0.mk (Kd.C_below H2'.out HW.out)
  have HBW := Aside0.mk (Below.refl W1.heap.size W1)
  have q0 := (blk_cell HX.out 0).trans (show _ = some (Value.slice A0 l0.length c0) from rfl)
  have q1 := (blk_cell HX.out 1).trans (show _ = some (Value.slice A1 l1.length c1) from rfl)
  have q2 := (blk_cell HX.out 2).trans (show _ = some (Value.slice A2 l2.length c2) from rfl)
  obtain ⟨gb, hgb⟩ : ∃ g, g = w.heap.size := ⟨_, rfl⟩
  rw [← hgb] at q0 q1 q2 ⊢
  have HGB := Aside0.mk hgb
  clear hgb
  go_region_held3 (fun W => W.cell? ⟨gb, 0, none⟩ = some (.slice A0 l0.length c0) ∧ W.cell? ⟨gb, 1, none⟩ = some (.slice A1 l1.length c1) ∧ W.cell? ⟨gb, 2, none⟩ = some (.slice A2 l2.length c2)) (go_keep)
    (first
      | (go_at_call 34; (with_reducible refine (wishbookref00_Tween.calls a1 0 ((l2.length : Int) - 1) rt _ HT.out).mono ?_); rintro e w2 ⟨rfl, ⟨nd, rfl⟩⟩)
      | (go_at_call 52; (with_reducible refine (wishbookref10_asked.calls A0 c0 l0 A1 c1 l1 A2 c2 l2 rt re _ (Kd.C_below H0.out (by repeat (first | (with_reducible exact HBW.out) | apply below_drew | apply pw_below_drewN))) HC0.out (Kd.C_below H1.out (by repeat (first | (with_reducible exact HBW.out) | apply below_drew | apply pw_below_drewN))) HC1.out (Kd.C_below H2.out (by repeat (first | (with_reducible exact HBW.out) | apply below_drew | apply pw_below_drewN))) HC2.out HA.out).mono ?_); rintro e w3 ⟨rfl, hb⟩; have HB3 := Aside0.mk (below_step (by repeat (first | (with_reducible exact HBW.out) | apply below_drew | apply pw_below_drewN)) hb); have q0' := pw_cell_below hb (a := ⟨gb, 0, none⟩) (v := .slice A0 l0.length c0) q0; have q1' := pw_cell_below hb (a := ⟨gb, 1, none⟩) (v := .slice A1 l1.length c1) q1; have q2' := pw_cell_below hb (a := ⟨gb, 2, none⟩) (v := .slice A2 l2.length c2) q2; clear hb))
  clear q0 q1 q2 hwn
  go_wp2_with (fail)
  refine bodyPost_ret (results_tmp2 rfl _ _ _) rfl ?_
  exact ⟨rfl, below_step HW.out HB3.out⟩
/-- The reference counts the days. -/
def Rl (K : Nat → Bool) : Nat → Nat → Int
  | 0, n => n
  | k + 1, n => if K (n + 1) = true then Rl K k (n + 1) else n
/-- A delivery that comes so many days later. -/
abbrev laterD (x : S57) (n : Int) : S57 := ⟨x.f0, ⟨x.f1.f0 + n + 1, x.f1.f1 + n + 1⟩, x.f2⟩
theorem keeps_n (k : Nat) (A0 A1 A2 B : Option Addr) (c0 c1 c2 b n : Nat) (l0 : List Int) (l1 : List S47) (l2 : List S57) (L : List Int) (r : Bool) (w : World) (h0 : Kd.C (Kd.int .i64) w A0 l0.length l0) (hc0 : l0.length ≤ c0) (h1 : Kd.C k47 w A1 l1.length l1) (hc1 : l1.length ≤ c1) (hn : l2.length = n) (h2 : Kd.C k57 w A2 n l2) (hc2 : n ≤ c2) (h3 : Kd.C (Kd.int .i64) w B L.length L) (hc3 : L.length ≤ b) (h : wishbookref10_keeps.f k l0 l1 l2 L = some r) :
    Calls Tryd.prog 60 #[.agg #[.slice A0 l0.length c0, .slice A1 l1.length c1, .slice A2 n c2], .slice B L.length b] w fun e w' => e = .returned (.bool r) ∧ Below w.heap.size w w' := by
  subst hn
  exact wishbookref10_keeps.calls k A0 c0 l0 A1 c1 l1 A2 c2 l2 B b L r w h0 hc0 h1 hc1 h2 hc2 h3 hc3 h
set_option maxHeartbeats 8000000 in
set_option maxRecDepth 100000 in
theorem rLate_live (A0 A1 A2 : Option Addr) (c0 c1 c2 : Nat) (l0 : List Int) (l1 : List S47) (l2 : List S57) (a1 : Int) (w : World) (h0 : Kd.C (Kd.int .i64) w A0 l0.length l0) (hc0 : l0.length ≤ c0) (h1 : Kd.C k47 w A1 l1.length l1) (hc1 : l1.length ≤ c1) (h2 : Kd.C k57 w A2 l2.length l2) (hc2 : l2.length ≤ c2) (hwn : IntKind.i64.wrap ((l2.length : Int) - 1) = (l2.length : Int) - 1) (k : Nat) (L : List Int) (K : Nat → Bool) (ht : wishbookref00_Tween.f a1 0 ((l2.length : Int) - 1) = some true) (ha : wishbookref10_asked.f l0 l1 l2 true = some 0) (hl : wishbookref10_list.f k l0 l1 l2 = some L)
    (ha1 : 0 ≤ a1) (ha2 : a1 < (l2.length : Int)) (hl2 : l2.length ≤ 1000) (hx : 0 ≤ (rd_T57 l2 a1).f1.f0 ∧ (rd_T57 l2 a1).f1.f0 ≤ 1000 ∧ 0 ≤ (rd_T57 l2 a1).f1.f1 ∧ (rd_T57 l2 a1).f1.f1 ≤ 1000)
    (hK : ∀ n : Nat, n < 100 → wishbookref10_keeps.f k l0 l1 (l2.set a1.toNat (laterD (rd_T57 l2 a1) n)) L = some (K (n + 1))) :
    Calls Tryd.prog 25 #[.agg #[.slice A0 l0.length c0, .slice A1 l1.length c1, .slice A2 l2.length c2], .int .i64 a1] w fun e w' => e = .returned (.tuple #[.int .i64 (Rl K 100 0), .int .i64 0]) ∧ Below w.heap.size w w' := by
  have HT := Aside0.mk ht
  have HA := Aside0.mk ha
  have HLI := Aside0.mk hl
  have HL2 := Aside0.mk hl2
  have HXB := Aside0.mk hx
  have HKK := Aside0.mk hK
  obtain ⟨rt, hrt⟩ : ∃ b, b = true := ⟨_, rfl⟩
  obtain ⟨re, hre⟩ : ∃ b : Int, b = 0 := ⟨_, rfl⟩
  rw [← hrt] at HT
  rw [← hre, ← hrt] at HA
  have hE : (re != 0) = false := bne_eq_false_iff_eq.2 hre
  clear ht ha hl hl2 hx hK hrt hre
  have H0' := Aside0.mk h0
  have H1' := Aside0.mk h1
  have H2' := Aside0.mk h2
  have HC0 := Aside0.mk hc0
  have HC1 := Aside0.mk hc1
  have HC2 := Aside0.mk hc2
  clear hc0 hc1 hc2 h0 h1 h2
  have hu26 := Tryd.underlying26
  have hu57 := Tryd.underlying57
  have hu55 := Tryd.underlying55
  have HX := Aside0.mk (heap_alloc_new w (.cells #[.slice A0 l0.length c0, .slice A1 l1.length c1, .slice A2 l2.length c2] 26))
  have HW := Aside0.mk (below_alloc (Below.refl w.heap.size w) (.cells #[.slice A0 l0.length c0, .slice A1 l1.length c1, .slice A2 l2.length c2] 26))
  have HWN := Aside0.mk hwn
  go_enter Tryd.func25, Tryd.ntmps25
  go_upto_region 1 with (fail)
  generalize w.alloc (.cells #[.slice A0 l0.length c0, .slice A1 l1.length c1, .slice A2 l2.length c2] 26) = W1 at HX HW ⊢
  have H0 := Aside0.mk (Kd.C_below H0'.out HW.out)
  have H1 := Aside0.mk (Kd.C_below H1'.out HW.out)
  have H2 := Aside0.mk (Kd.C_below H2'.out HW.out)
  have HBW := Aside0.mk (Below.refl W1.heap.size W1)
  have q0 := (blk_cell HX.out 0).trans (show _ = some (Value.slice A0 l0.length c0) from rfl)
  have q1 := (blk_cell HX.out 1).trans (show _ = some (Value.slice A1 l1.length c1) from rfl)
  have q2 := (blk_cell HX.out 2).trans (show _ = some (Value.slice A2 l2.length c2) from rfl)
  obtain ⟨gb, hgb⟩ : ∃ g, g = w.heap.size := ⟨_, rfl⟩
  rw [← hgb] at q0 q1 q2 ⊢
  have HGB := Aside0.mk hgb
  clear hgb
  go_region_held3 (fun W => W.cell? ⟨gb, 0, none⟩ = some (.slice A0 l0.length c0) ∧ W.cell? ⟨gb, 1, none⟩ = some (.slice A1 l1.length c1) ∧ W.cell? ⟨gb, 2, none⟩ = some (.slice A2 l2.length c2)) (go_keep)
    (first
      | (go_at_call 34; (with_reducible refine (wishbookref00_Tween.calls a1 0 ((l2.length : Int) - 1) rt _ HT.out).mono ?_); rintro e w2 ⟨rfl, ⟨nd, rfl⟩⟩)
      | (go_at_call 52; (with_reducible refine (wishbookref10_asked.calls A0 c0 l0 A1 c1 l1 A2 c2 l2 rt re _ (Kd.C_below H0.out (by repeat (first | (with_reducible exact HBW.out) | apply below_drew | apply pw_below_drewN))) HC0.out (Kd.C_below H1.out (by repeat (first | (with_reducible exact HBW.out) | apply below_drew | apply pw_below_drewN))) HC1.out (Kd.C_below H2.out (by repeat (first | (with_reducible exact HBW.out) | apply below_drew | apply pw_below_drewN))) HC2.out HA.out).mono ?_); rintro e w3 ⟨rfl, hb⟩; have HB3 := Aside0.mk (below_step (by repeat (first | (with_reducible exact HBW.out) | apply below_drew | apply pw_below_drewN)) hb); have q0' := pw_cell_below hb (a := ⟨gb, 0, none⟩) (v := .slice A0 l0.length c0) q0; have q1' := pw_cell_below hb (a := ⟨gb, 1, none⟩) (v := .slice A1 l1.length c1) q1; have q2' := pw_cell_below hb (a := ⟨gb, 2, none⟩) (v := .slice A2 l2.length c2) q2; clear hb))
  clear q0 q1 q2 hwn
  go_upto_region 5 with ((go_at_call 59; (with_reducible refine (wishbookref10_list.calls k A0 c0 l0 A1 c1 l1 A2 c2 l2 L _ (Kd.C_below H0.out (by repeat (first | (with_reducible exact HB3.out) | apply below_drew | apply pw_below_drewN))) HC0.out (Kd.C_below H1.out (by repeat (first | (with_reducible exact HB3.out) | apply below_drew | apply pw_below_drewN))) HC1.out (Kd.C_below H2.out (by repeat (first | (with_reducible exact HB3.out) | apply below_drew | apply pw_below_drewN))) HC2.out HLI.out).mono ?_); rintro e w5 ⟨v5, rfl, hR, hb⟩; obtain ⟨AL, cL, rfl, hcL, hV⟩ := R_cut hR; have HV := Aside0.mk (show Kd.C (Kd.int .i64) w5 AL L.length L from (Kd.V_reads' hV).2.2); have HCL := Aside0.mk hcL; clear hR hcL hV; have HB5 := Aside0.mk (below_step (by repeat (first | (with_reducible exact HB3.out) | apply below_drew | apply pw_below_drewN)) hb); replace q0' := pw_cell_below hb (a := ⟨gb, 0, none⟩) (v := .slice A0 l0.length c0) (by first | (with_reducible exact q0') | (go_simp; done)); replace q1' := pw_cell_below hb (a := ⟨gb, 1, none⟩) (v := .slice A1 l1.length c1) (by first | (with_reducible exact q1') | (go_simp; done)); replace q2' := pw_cell_below hb (a := ⟨gb, 2, none⟩) (v := .slice A2 l2.length c2) (by first | (with_reducible exact q2') | (go_simp; done)); clear hb))
  go_wp2_with (fail)
  go_loopw [8] (fun v8 wr => ∃ n : Nat, n ≤ 100 ∧ v8 = .int .i64 n ∧ Aside0 (Rl K 100 0 = Rl K (100 - n) n) ∧ Aside0 (Below w5.heap.size w5 wr)) (fun i _ => 100 - (intOf i).toNat)
  case atStart => exact ⟨0, by omega, rfl, ⟨rfl⟩, ⟨Below.refl _ _⟩⟩
  case round =>
    obtain ⟨n, hn, rfl, HE, HR⟩ := hrel
    by_cases hnn : n < 100
    · replace q0' := pw_cell_below HR.out (a := ⟨gb, 0, none⟩) (v := .slice A0 l0.length c0) q0'
      replace q1' := pw_cell_below HR.out (a := ⟨gb, 1, none⟩) (v := .slice A1 l1.length c1) q1'
      replace q2' := pw_cell_below HR.out (a := ⟨gb, 2, none⟩) (v := .slice A2 l2.length c2) q2'
      have HBR := Aside0.mk (below_step HB5.out HR.out)
      obtain ⟨ad, ead, m0, m1, m2, m3, m4⟩ := at_T57 (Kd.C_below H2.out HBR.out) a1 ha1 ha2
      cases ead
      have HXA := heap_alloc_new wr (.cells #[.int .i64 (rd_T57 l2 a1).f0, .int .i64 (rd_T57 l2 a1).f1.f0, .int .i64 (rd_T57 l2 a1).f1.f1, .int .i64 (rd_T57 l2 a1).f2.f0, .int .i64 (rd_T57 l2 a1).f2.f1] 57)
      have HXB1 := Aside0.mk (below_alloc (Below.refl wr.heap.size wr) (.cells #[.int .i64 (rd_T57 l2 a1).f0, .int .i64 (rd_T57 l2 a1).f1.f0, .int .i64 (rd_T57 l2 a1).f1.f1, .int .i64 (rd_T57 l2 a1).f2.f0, .int .i64 (rd_T57 l2 a1).f2.f1] 57))
      go_upto_region 8 with (fail)
      generalize wr.alloc (.cells #[.int .i64 (rd_T57 l2 a1).f0, .int .i64 (rd_T57 l2 a1).f1.f0, .int .i64 (rd_T57 l2 a1).f1.f1, .int .i64 (rd_T57 l2 a1).f2.f0, .int .i64 (rd_T57 l2 a1).f2.f1] 57) = W8 at HXA HXB1 ⊢
      replace q0' := pw_cell_below HXB1.out (a := ⟨gb, 0, none⟩) (v := .slice A0 l0.length c0) q0'
      replace q1' := pw_cell_below HXB1.out (a := ⟨gb, 1, none⟩) (v := .slice A1 l1.length c1) q1'
      replace q2' := pw_cell_below HXB1.out (a := ⟨gb, 2, none⟩) (v := .slice (some ad) l2.length c2) q2'
      have HB8 := Aside0.mk (below_step HBR.out HXB1.out)
      have HR8 := Aside0.mk (below_step HR.out HXB1.out)
      have HGX := Aside0.mk (show w5.heap.size ≤ wr.heap.size from below_size HR.out)
      have HGW := Aside0.mk (show W1.heap.size ≤ wr.heap.size from below_size HBR.out)
      have HLT := Aside0.mk (show gb < W1.heap.size from by rw [HGB.out]; exact blk_lt HX.out)
      obtain ⟨gx, hgx⟩ : ∃ g, g = wr.heap.size := ⟨_, rfl⟩
      rw [← hgx] at HXA HGX HGW ⊢
      have KX := Aside0.mk HXA
      clear hgx HXA m0 m1 m2 m3 m4
      have hb := HXB.out
      have w1_ : IntKind.i64.wrap ((rd_T57 l2 a1).f1.f0 + (n : Int)) = (rd_T57 l2 a1).f1.f0 + (n : Int) := by rw [IntKind.wrap_i64]; omega
      have w2_ : IntKind.i64.wrap ((rd_T57 l2 a1).f1.f0 + (n : Int) + 1) = (rd_T57 l2 a1).f1.f0 + (n : Int) + 1 := by rw [IntKind.wrap_i64]; omega
      have w3_ : IntKind.i64.wrap ((rd_T57 l2 a1).f1.f1 + (n : Int)) = (rd_T57 l2 a1).f1.f1 + (n : Int) := by rw [IntKind.wrap_i64]; omega
      have w4_ : IntKind.i64.wrap ((rd_T57 l2 a1).f1.f1 + (n : Int) + 1) = (rd_T57 l2 a1).f1.f1 + (n : Int) + 1 := by rw [IntKind.wrap_i64]; omega
      have w5_ : IntKind.i64.wrap ((n : Int) + 1) = (n : Int) + 1 := by rw [IntKind.wrap_i64]; omega
      clear hb
      have x1 := (blk_cell KX.out 1).trans (show _ = some (Value.int .i64 (rd_T57 l2 a1).f1.f0) from rfl)
      have x2 := (blk_cell KX.out 2).trans (show _ = some (Value.int .i64 (rd_T57 l2 a1).f1.f1) from rfl)
      have HN := Aside0.mk (show wishbookref00_To.f ((rd_T57 l2 a1).f1.f0 + (n : Int) + 1) ((rd_T57 l2 a1).f1.f1 + (n : Int) + 1) = some ((rd_T57 l2 a1).f1.f0 + (n : Int) + 1, (rd_T57 l2 a1).f1.f1 + (n : Int) + 1) from rfl)
      go_upto_region 9 with ((go_at_call 40; (with_reducible refine (wishbookref00_To.calls ((rd_T57 l2 a1).f1.f0 + (n : Int) + 1) ((rd_T57 l2 a1).f1.f1 + (n : Int) + 1) _ _ _ HN.out).mono ?_); rintro e w9 ⟨rfl, hb⟩; replace q0' := pw_cell_below hb (a := ⟨gb, 0, none⟩) (v := .slice A0 l0.length c0) q0'; replace q1' := pw_cell_below hb (a := ⟨gb, 1, none⟩) (v := .slice A1 l1.length c1) q1'; replace q2' := pw_cell_below hb (a := ⟨gb, 2, none⟩) (v := .slice (some ad) l2.length c2) q2'; have HB9 := Aside0.mk (below_step HB8.out hb); have HR9 := Aside0.mk (below_step HR8.out hb); have KX9 := Aside0.mk (blk_below KX.out hb); clear hb x1 x2; have x1 := (blk_cell KX9.out 1).trans (show _ = some (Value.int .i64 (rd_T57 l2 a1).f1.f0) from rfl); have x2 := (blk_cell KX9.out 2).trans (show _ = some (Value.int .i64 (rd_T57 l2 a1).f1.f1) from rfl); have f1 := blk_frozen KX9.out 1; have f2 := blk_frozen KX9.out 2))
      have KXB := Aside0.mk (blk_put (blk_put (cs := #[.int .i64 (rd_T57 l2 a1).f0, .int .i64 (rd_T57 l2 a1).f1.f0, .int .i64 (rd_T57 l2 a1).f1.f1, .int .i64 (rd_T57 l2 a1).f2.f0, .int .i64 (rd_T57 l2 a1).f2.f1]) KX9.out 1 (.int .i64 ((rd_T57 l2 a1).f1.f0 + (n : Int) + 1)) rfl) 2 (.int .i64 ((rd_T57 l2 a1).f1.f1 + (n : Int) + 1)) rfl)
      have HBB := Aside0.mk (below_set (j := 2) (v := .int .i64 ((rd_T57 l2 a1).f1.f1 + (n : Int) + 1)) (below_set (j := 1) (v := .int .i64 ((rd_T57 l2 a1).f1.f0 + (n : Int) + 1)) HB9.out HGW.out) HGW.out)
      have HRB := Aside0.mk (below_set (j := 2) (v := .int .i64 ((rd_T57 l2 a1).f1.f1 + (n : Int) + 1)) (below_set (j := 1) (v := .int .i64 ((rd_T57 l2 a1).f1.f0 + (n : Int) + 1)) HR9.out HGX.out) HGX.out)
      have hne : gb ≠ gx := by have h1 := HLT.out; have h2 := HGW.out; omega
      have Q0 := Aside0.mk (show ((w9.setCell ⟨gx, 1, none⟩ (.int .i64 ((rd_T57 l2 a1).f1.f0 + (n : Int) + 1))).setCell ⟨gx, 2, none⟩ (.int .i64 ((rd_T57 l2 a1).f1.f1 + (n : Int) + 1))).cell? ⟨gb, 0, none⟩ = some (.slice A0 l0.length c0) by go_simp)
      have Q1 := Aside0.mk (show ((w9.setCell ⟨gx, 1, none⟩ (.int .i64 ((rd_T57 l2 a1).f1.f0 + (n : Int) + 1))).setCell ⟨gx, 2, none⟩ (.int .i64 ((rd_T57 l2 a1).f1.f1 + (n : Int) + 1))).cell? ⟨gb, 1, none⟩ = some (.slice A1 l1.length c1) by go_simp)
      have Q2 := Aside0.mk (show ((w9.setCell ⟨gx, 1, none⟩ (.int .i64 ((rd_T57 l2 a1).f1.f0 + (n : Int) + 1))).setCell ⟨gx, 2, none⟩ (.int .i64 ((rd_T57 l2 a1).f1.f1 + (n : Int) + 1))).cell? ⟨gb, 2, none⟩ = some (.slice (some ad) l2.length c2) by go_simp)
      clear q0' q1' q2' x1 x2 f1 f2 hne
      generalize (w9.setCell ⟨gx, 1, none⟩ (.int .i64 ((rd_T57 l2 a1).f1.f0 + (n : Int) + 1))).setCell ⟨gx, 2, none⟩ (.int .i64 ((rd_T57 l2 a1).f1.f1 + (n : Int) + 1)) = W9 at KXB HBB HRB Q0 Q1 Q2 ⊢
      have q0 := Q0.out
      have q1 := Q1.out
      have q2 := Q2.out
      have x0 := (blk_cell KXB.out 0).trans (show _ = some (Value.int .i64 (rd_T57 l2 a1).f0) from rfl)
      have x1 := (blk_cell KXB.out 1).trans (show _ = some (Value.int .i64 ((rd_T57 l2 a1).f1.f0 + (n : Int) + 1)) from rfl)
      have x2 := (blk_cell KXB.out 2).trans (show _ = some (Value.int .i64 ((rd_T57 l2 a1).f1.f1 + (n : Int) + 1)) from rfl)
      have x3 := (blk_cell KXB.out 3).trans (show _ = some (Value.int .i64 (rd_T57 l2 a1).f2.f0) from rfl)
      have x4 := (blk_cell KXB.out 4).trans (show _ = some (Value.int .i64 (rd_T57 l2 a1).f2.f1) from rfl)
      have hk := HKK.out n hnn
      have HV9 := Aside0.mk (Kd.C_below HV.out HRB.out)
      cases hKn : K (n + 1) with
      | false =>
        rw [hKn] at hk
        have HK9 := Aside0.mk hk
        have HEQ := Aside0.mk (show Rl K 100 0 = (n : Int) by rw [HE.out, show 100 - n = (99 - n) + 1 by omega, Rl, hKn]; rfl)
        clear hk hKn
        go_upto_region 10 with (first
          | (go_at_call 61; (with_reducible refine (rwith_walk A0 A1 (some ad) l0.length l1.length c0 c1 c2 l2 a1 ⟨(rd_T57 l2 a1).f0, ⟨(rd_T57 l2 a1).f1.f0 + (n : Int) + 1, (rd_T57 l2 a1).f1.f1 + (n : Int) + 1⟩, (rd_T57 l2 a1).f2⟩ _ (Kd.C_below H2.out (by repeat (first | (with_reducible exact HBB.out) | apply below_drew | apply pw_below_drewN))) HC2.out HL2.out ha1 ha2).mono ?_); rintro e w10 ⟨Aw, cw, rfl, hcw, hCw, hb⟩; have HCW := Aside0.mk hCw; have HCL2 := Aside0.mk hcw; have HB10 := Aside0.mk (below_step (by repeat (first | (with_reducible exact HBB.out) | apply below_drew | apply pw_below_drewN)) hb); have HR10 := Aside0.mk (below_step (by repeat (first | (with_reducible exact HRB.out) | apply below_drew | apply pw_below_drewN)) hb); clear hcw hCw hb q0 q1 q2 x0 x1 x2 x3 x4)
          | (go_at_call 60; (with_reducible refine (keeps_n k A0 A1 Aw AL c0 c1 cw cL l2.length l0 l1 (l2.set a1.toNat ⟨(rd_T57 l2 a1).f0, ⟨(rd_T57 l2 a1).f1.f0 + (n : Int) + 1, (rd_T57 l2 a1).f1.f1 + (n : Int) + 1⟩, (rd_T57 l2 a1).f2⟩) L _ _ (Kd.C_below H0.out (by repeat (first | (with_reducible exact HB10.out) | apply below_drew | apply pw_below_drewN))) HC0.out (Kd.C_below H1.out (by repeat (first | (with_reducible exact HB10.out) | apply below_drew | apply pw_below_drewN))) HC1.out List.length_set HCW.out HCL2.out (Kd.C_below HV.out (by repeat (first | (with_reducible exact HR10.out) | apply below_drew | apply pw_below_drewN))) HCL.out HK9.out).mono ?_); rintro e w11 ⟨rfl, hb⟩; have HB11 := Aside0.mk (below_step (by repeat (first | (with_reducible exact HB10.out) | apply below_drew | apply pw_below_drewN)) hb); have HR11 := Aside0.mk (below_step (by repeat (first | (with_reducible exact HR10.out) | apply below_drew | apply pw_below_drewN)) hb); clear hb))
        go_wp2_with (fail)
        refine bodyPost_ret (results_tmp2 rfl _ _ _) rfl ?_
        exact ⟨by rw [HEQ.out]; rfl, below_step HW.out HB11.out⟩
      | true =>
        rw [hKn] at hk
        have HK9 := Aside0.mk hk
        have HEQ := Aside0.mk (show Rl K 100 0 = Rl K (100 - (n + 1)) (n + 1) by rw [HE.out, show 100 - n = (100 - (n + 1)) + 1 by omega, Rl, hKn]; rfl)
        clear hk hKn
        go_wp2_with (first
          | (go_at_call 61; (with_reducible refine (rwith_walk A0 A1 (some ad) l0.length l1.length c0 c1 c2 l2 a1 ⟨(rd_T57 l2 a1).f0, ⟨(rd_T57 l2 a1).f1.f0 + (n : Int) + 1, (rd_T57 l2 a1).f1.f1 + (n : Int) + 1⟩, (rd_T57 l2 a1).f2⟩ _ (Kd.C_below H2.out (by repeat (first | (with_reducible exact HBB.out) | apply below_drew | apply pw_below_drewN))) HC2.out HL2.out ha1 ha2).mono ?_); rintro e w10 ⟨Aw, cw, rfl, hcw, hCw, hb⟩; have HCW := Aside0.mk hCw; have HCL2 := Aside0.mk hcw; have HB10 := Aside0.mk (below_step (by repeat (first | (with_reducible exact HBB.out) | apply below_drew | apply pw_below_drewN)) hb); have HR10 := Aside0.mk (below_step (by repeat (first | (with_reducible exact HRB.out) | apply below_drew | apply pw_below_drewN)) hb); clear hcw hCw hb q0 q1 q2 x0 x1 x2 x3 x4)
          | (go_at_call 60; (with_reducible refine (keeps_n k A0 A1 Aw AL c0 c1 cw cL l2.length l0 l1 (l2.set a1.toNat ⟨(rd_T57 l2 a1).f0, ⟨(rd_T57 l2 a1).f1.f0 + (n : Int) + 1, (rd_T57 l2 a1).f1.f1 + (n : Int) + 1⟩, (rd_T57 l2 a1).f2⟩) L _ _ (Kd.C_below H0.out (by repeat (first | (with_reducible exact HB10.out) | apply below_drew | apply pw_below_drewN))) HC0.out (Kd.C_below H1.out (by repeat (first | (with_reducible exact HB10.out) | apply below_drew | apply pw_below_drewN))) HC1.out List.length_set HCW.out HCL2.out (Kd.C_below HV.out (by repeat (first | (with_reducible exact HR10.out) | apply below_drew | apply pw_below_drewN))) HCL.out HK9.out).mono ?_); rintro e w11 ⟨rfl, hb⟩; have HB11 := Aside0.mk (below_step (by repeat (first | (with_reducible exact HB10.out) | apply below_drew | apply pw_below_drewN)) hb); have HR11 := Aside0.mk (below_step (by repeat (first | (with_reducible exact HR10.out) | apply below_drew | apply pw_below_drewN)) hb); clear hb))
        go_roundw
        case rel => exact ⟨n + 1, by omega, by go_num, HEQ, HR11⟩
        case measure => simp [intOf]; omega
    · obtain rfl : n = 100 := by omega
      go_wp2_with (fail)
      refine bodyPost_ret (results_tmp2 rfl _ _ _) rfl ?_
      exact ⟨by rw [HE.out]; rfl, below_step HW.out (below_step HB5.out HR.out)⟩
end Go.Proofs.YtegpepnmnlockaaDoor.PL
namespace Go.Proofs.YtegpepnmnlockaaDoor.PL
open Go.RowKit Go.Proofs.YtegpepnmnlockaaDoorW.PrintWords Go.Proofs.YtegpepnmnlockaaDoorW.PrintLast Go.Proofs.YtegpepnmnlockaaDoorW.PrintMore
set_option linter.unusedVariables false
set_option linter.unusedSimpArgs false
set_option maxHeartbeats 8000000 in
set_option maxRecDepth 100000 in
theorem rBroken_dead (A0 A1 A2 : Option Addr) (c0 c1 c2 : Nat) (l0 : List Int) (l1 : List S47) (l2 : List S57) (a1 : Int) (w : World) (h0 : Kd.C (Kd.int .i64) w A0 l0.length l0) (hc0 : l0.length ≤ c0) (h1 : Kd.C k47 w A1 l1.length l1) (hc1 : l1.length ≤ c1) (h2 : Kd.C k57 w A2 l2.length l2) (hc2 : l2.length ≤ c2) (hwn : IntKind.i64.wrap ((l2.length : Int) - 1) = (l2.length : Int) - 1) (rt : Bool) (re : Int) (ht : wishbookref00_Tween.f a1 0 ((l2.length : Int) - 1) = some rt) (ha : wishbookref10_asked.f l0 l1 l2 rt = some re) (hre : re ≠ 0) :
    Calls Tryd.prog 27 #[.agg #[.slice A0 l0.length c0, .slice A1 l1.length c1, .slice A2 l2.length c2], .int .i64 a1] w fun e w' => e = .returned (.tuple #[.slice none 0 0, .int .i64 re]) ∧ Below w.heap.size w w' := by
  have HT := Aside0.mk ht
  have HA := Aside0.mk ha
  clear ht ha
  have hE : (re != 0) = true := bne_iff_ne.2 hre
  clear hre
  have H0' := Aside0.mk h0
  have H1' := Aside0.mk h1
  have H2' := Aside0.mk h2
  have HC0 := Aside0.mk hc0
  have HC1 := Aside0.mk hc1
  have HC2 := Aside0.mk hc2
  clear hc0 hc1 hc2 h0 h1 h2
  have hu26 := Tryd.underlying26
  have hu57 := Tryd.underlying57
  have hu55 := Tryd.underlying55
  have HX := Aside0.mk (heap_alloc_new w (.cells #[.slice A0 l0.length c0, .slice A1 l1.length c1, .slice A2 l2.length c2] 26))
  have HW := Aside0.mk (below_alloc (Below.refl w.heap.size w) (.cells #[.slice A0 l0.length c0, .slice A1 l1.length c1, .slice A2 l2.length c2] 26))
  have HWN := Aside0.mk hwn
  go_enter Tryd.func27, Tryd.ntmps27
  go_upto_region 1 with (fail)
  generalize w.alloc (.cells #[.slice A0 l0.length c0, .slice A1 l1.length c1, .slice A2 l2.length c2] 26) = W1 at HX HW ⊢
  have H0 := Aside0.mk (Kd.C_below H0'.out HW.out)
  have H1 := Aside0.mk (Kd.C_below H1'.out HW.out)
  have H2 := Aside0.mk (Kd.C_below H2'.out HW.out)
  have HBW := Aside0.mk (Below.refl W1.heap.size W1)
  have q0 := (blk_cell HX.out 0).trans (show _ = some (Value.slice A0 l0.length c0) from rfl)
  have q1 := (blk_cell HX.out 1).trans (show _ = some (Value.slice A1 l1.length c1) from rfl)
  have q2 := (blk_cell HX.out 2).trans (show _ = some (Value.slice A2 l2.length c2) from rfl)
  obtain ⟨gb, hgb⟩ : ∃ g, g = w.heap.size := ⟨_, rfl⟩
  rw [← hgb] at q0 q1 q2 ⊢
  have HGB := Aside0.mk hgb
  clear hgb
  go_region_held3 (fun W => W.cell? ⟨gb, 0, none⟩ = some (.slice A0 l0.length c0) ∧ W.cell? ⟨gb, 1, none⟩ = some (.slice A1 l1.length c1) ∧ W.cell? ⟨gb, 2, none⟩ = some (.slice A2 l2.length c2)) (go_keep)
    (first
      | (go_at_call 34; (with_reducible refine (wishbookref00_Tween.calls a1 0 ((l2.length : Int) - 1) rt _ HT.out).mono ?_); rintro e w2 ⟨rfl, ⟨nd, rfl⟩⟩)
      | (go_at_call 52; (with_reducible refine (wishbookref10_asked.calls A0 c0 l0 A1 c1 l1 A2 c2 l2 rt re _ (Kd.C_below H0.out (by repeat (first | (with_reducible exact HBW.out) | apply below_drew | apply pw_below_drewN))) HC0.out (Kd.C_below H1.out (by repeat (first | (with_reducible exact HBW.out) | apply below_drew | apply pw_below_drewN))) HC1.out (Kd.C_below H2.out (by repeat (first | (with_reducible exact HBW.out) | apply below_drew | apply pw_below_drewN))) HC2.out HA.out).mono ?_); rintro e w3 ⟨rfl, hb⟩; have HB3 := Aside0.mk (below_step (by repeat (first | (with_reducible exact HBW.out) | apply below_drew | apply pw_below_drewN)) hb); have q0' := pw_cell_below hb (a := ⟨gb, 0, none⟩) (v := .slice A0 l0.length c0) q0; have q1' := pw_cell_below hb (a := ⟨gb, 1, none⟩) (v := .slice A1 l1.length c1) q1; have q2' := pw_cell_below hb (a := ⟨gb, 2, none⟩) (v := .slice A2 l2.length c2) q2; clear hb))
  clear q0 q1 q2 hwn
  go_wp2_with (fail)
  refine bodyPost_ret (results_tmp2 rfl _ _ _) rfl ?_
  exact ⟨rfl, below_step HW.out HB3.out⟩
/-- Which lines are broken, of the first n. -/
def brokR (KB : Nat → Bool) (L : List Int) : Nat → List Int
  | 0 => []
  | i + 1 => brokR KB L i ++ (if (decide (0 < rd L (i : Nat)) && !KB i) = true then [(i : Int)] else [])
theorem brokR_len (KB : Nat → Bool) (L : List Int) : ∀ i, (brokR KB L i).length ≤ i
  | 0 => Nat.le_refl _
  | i + 1 => by
    have := brokR_len KB L i
    rw [brokR, List.length_append]
    split <;> simp <;> omega
/-- A delivery of which nothing comes. -/
abbrev noneD (x : S57) : S57 := ⟨x.f0, x.f1, ⟨0, 0⟩⟩
theorem kept_n (k : Nat) (A0 A1 A2 B : Option Addr) (c0 c1 c2 b n m : Nat) (l0 : List Int) (l1 : List S47) (l2 : List S57) (a : Int) (L : List Int) (r : Bool) (w : World) (h0 : Kd.C (Kd.int .i64) w A0 l0.length l0) (hc0 : l0.length ≤ c0) (h1 : Kd.C k47 w A1 l1.length l1) (hc1 : l1.length ≤ c1) (hn : l2.length = n) (h2 : Kd.C k57 w A2 n l2) (hc2 : n ≤ c2) (h3 : Kd.C (Kd.int .i64) w B L.length L) (hm : m ≤ L.length) (hc3 : L.length ≤ b) (h : wishbookref10_kept.f k l0 l1 l2 a (L.take m) = some r) :
    Calls Tryd.prog 63 #[.agg #[.slice A0 l0.length c0, .slice A1 l1.length c1, .slice A2 n c2], .int .i64 a, .slice B m b] w fun e w' => e = .returned (.bool r) ∧ Below w.heap.size w w' := by
  subst hn
  have hl : (L.take m).length = m := by rw [List.length_take]; omega
  have := wishbookref10_kept.calls k A0 c0 l0 A1 c1 l1 A2 c2 l2 a B b (L.take m) r w h0 hc0 h1 hc1 h2 hc2 (Kd.C_take h3 hm) (by omega) h
  rw [hl] at this
  exact this
set_option maxHeartbeats 8000000 in
set_option maxRecDepth 100000 in
theorem rBroken_live (A0 A1 A2 : Option Addr) (c0 c1 c2 : Nat) (l0 : List Int) (l1 : List S47) (l2 : List S57) (a1 : Int) (w : World) (h0 : Kd.C (Kd.int .i64) w A0 l0.length l0) (hc0 : l0.length ≤ c0) (h1 : Kd.C k47 w A1 l1.length l1) (hc1 : l1.length ≤ c1) (h2 : Kd.C k57 w A2 l2.length l2) (hc2 : l2.length ≤ c2) (hwn : IntKind.i64.wrap ((l2.length : Int) - 1) = (l2.length : Int) - 1) (k : Nat) (L : List Int) (KB : Nat → Bool) (ht : wishbookref00_Tween.f a1 0 ((l2.length : Int) - 1) = some true) (ha : wishbookref10_asked.f l0 l1 l2 true = some 0) (hl : wishbookref10_list.f k l0 l1 l2 = some L)
    (ha1 : 0 ≤ a1) (ha2 : a1 < (l2.length : Int)) (hl2 : l2.length ≤ 1000) (hL : L.length ≤ 1000) (hL1 : L.length = l1.length)
    (hK : ∀ n : Nat, n < L.length → wishbookref10_kept.f k l0 l1 (l2.set a1.toNat (noneD (rd_T57 l2 a1))) (rd_T47 l1 n).f1 (L.take (n + 1)) = some (KB n)) :
    Calls Tryd.prog 27 #[.agg #[.slice A0 l0.length c0, .slice A1 l1.length c1, .slice A2 l2.length c2], .int .i64 a1] w fun e w' => ∃ v1_ : Value, e = .returned (.tuple #[v1_, .int .i64 0]) ∧ Kd.R (Kd.int .i64) 3 w' w.heap.size (fun _ => True) v1_ (brokR KB L L.length) ∧ Below w.heap.size w w' := by
  have HT := Aside0.mk ht
  have HA := Aside0.mk ha
  have HLI := Aside0.mk hl
  have HL2 := Aside0.mk hl2
  have HLL := Aside0.mk hL
  have HL1 := Aside0.mk hL1
  have HKK := Aside0.mk hK
  obtain ⟨rt, hrt⟩ : ∃ b, b = true := ⟨_, rfl⟩
  obtain ⟨re, hre⟩ : ∃ b : Int, b = 0 := ⟨_, rfl⟩
  rw [← hrt] at HT
  rw [← hre, ← hrt] at HA
  have hE : (re != 0) = false := bne_eq_false_iff_eq.2 hre
  clear ht ha hl hl2 hK hrt hre hL hL1
  have H0' := Aside0.mk h0
  have H1' := Aside0.mk h1
  have H2' := Aside0.mk h2
  have HC0 := Aside0.mk hc0
  have HC1 := Aside0.mk hc1
  have HC2 := Aside0.mk hc2
  clear hc0 hc1 hc2 h0 h1 h2
  have hu26 := Tryd.underlying26
  have hu57 := Tryd.underlying57
  have hu55 := Tryd.underlying55
  have HX := Aside0.mk (heap_alloc_new w (.cells #[.slice A0 l0.length c0, .slice A1 l1.length c1, .slice A2 l2.length c2] 26))
  have HW := Aside0.mk (below_alloc (Below.refl w.heap.size w) (.cells #[.slice A0 l0.length c0, .slice A1 l1.length c1, .slice A2 l2.length c2] 26))
  have HWN := Aside0.mk hwn
  go_enter Tryd.func27, Tryd.ntmps27
  go_upto_region 1 with (fail)
  generalize w.alloc (.cells #[.slice A0 l0.length c0, .slice A1 l1.length c1, .slice A2 l2.length c2] 26) = W1 at HX HW ⊢
  have H0 := Aside0.mk (Kd.C_below H0'.out HW.out)
  have H1 := Aside0.mk (Kd.C_below H1'.out HW.out)
  have H2 := Aside0.mk (Kd.C_below H2'.out HW.out)
  have HBW := Aside0.mk (Below.refl W1.heap.size W1)
  have q0 := (blk_cell HX.out 0).trans (show _ = some (Value.slice A0 l0.length c0) from rfl)
  have q1 := (blk_cell HX.out 1).trans (show _ = some (Value.slice A1 l1.length c1) from rfl)
  have q2 := (blk_cell HX.out 2).trans (show _ = some (Value.slice A2 l2.length c2) from rfl)
  obtain ⟨gb, hgb⟩ : ∃ g, g = w.heap.size := ⟨_, rfl⟩
  rw [← hgb] at q0 q1 q2 ⊢
  have HGB := Aside0.mk hgb
  clear hgb
  go_region_held3 (fun W => W.cell? ⟨gb, 0, none⟩ = some (.slice A0 l0.length c0) ∧ W.cell? ⟨gb, 1, none⟩ = some (.slice A1 l1.length c1) ∧ W.cell? ⟨gb, 2, none⟩ = some (.slice A2 l2.length c2)) (go_keep)
    (first
      | (go_at_call 34; (with_reducible refine (wishbookref00_Tween.calls a1 0 ((l2.length : Int) - 1) rt _ HT.out).mono ?_); rintro e w2 ⟨rfl, ⟨nd, rfl⟩⟩)
      | (go_at_call 52; (with_reducible refine (wishbookref10_asked.calls A0 c0 l0 A1 c1 l1 A2 c2 l2 rt re _ (Kd.C_below H0.out (by repeat (first | (with_reducible exact HBW.out) | apply below_drew | apply pw_below_drewN))) HC0.out (Kd.C_below H1.out (by repeat (first | (with_reducible exact HBW.out) | apply below_drew | apply pw_below_drewN))) HC1.out (Kd.C_below H2.out (by repeat (first | (with_reducible exact HBW.out) | apply below_drew | apply pw_below_drewN))) HC2.out HA.out).mono ?_); rintro e w3 ⟨rfl, hb⟩; have HB3 := Aside0.mk (below_step (by repeat (first | (with_reducible exact HBW.out) | apply below_drew | apply pw_below_drewN)) hb); have q0' := pw_cell_below hb (a := ⟨gb, 0, none⟩) (v := .slice A0 l0.length c0) q0; have q1' := pw_cell_below hb (a := ⟨gb, 1, none⟩) (v := .slice A1 l1.length c1) q1; have q2' := pw_cell_below hb (a := ⟨gb, 2, none⟩) (v := .slice A2 l2.length c2) q2; clear hb))
  clear q0 q1 q2 hwn
  go_upto_region 5 with ((go_at_call 59; (with_reducible refine (wishbookref10_list.calls k A0 c0 l0 A1 c1 l1 A2 c2 l2 L _ (Kd.C_below H0.out (by repeat (first | (with_reducible exact HB3.out) | apply below_drew | apply pw_below_drewN))) HC0.out (Kd.C_below H1.out (by repeat (first | (with_reducible exact HB3.out) | apply below_drew | apply pw_below_drewN))) HC1.out (Kd.C_below H2.out (by repeat (first | (with_reducible exact HB3.out) | apply below_drew | apply pw_below_drewN))) HC2.out HLI.out).mono ?_); rintro e w5 ⟨v5, rfl, hR, hb⟩; obtain ⟨AL, cL, rfl, hcL, hV⟩ := R_cut hR; have HV := Aside0.mk (show Kd.C (Kd.int .i64) w5 AL L.length L from (Kd.V_reads' hV).2.2); have HCL := Aside0.mk hcL; clear hR hcL hV; have HB5 := Aside0.mk (below_step (by repeat (first | (with_reducible exact HB3.out) | apply below_drew | apply pw_below_drewN)) hb); replace q0' := pw_cell_below hb (a := ⟨gb, 0, none⟩) (v := .slice A0 l0.length c0) (by first | (with_reducible exact q0') | (go_simp; done)); replace q1' := pw_cell_below hb (a := ⟨gb, 1, none⟩) (v := .slice A1 l1.length c1) (by first | (with_reducible exact q1') | (go_simp; done)); replace q2' := pw_cell_below hb (a := ⟨gb, 2, none⟩) (v := .slice A2 l2.length c2) (by first | (with_reducible exact q2') | (go_simp; done)); clear hb))
  obtain ⟨ad, ead, m0, m1, m2, m3, m4⟩ := at_T57 (Kd.C_below H2.out HB5.out) a1 ha1 ha2
  cases ead
  have HXA := heap_alloc_new w5 (.cells #[.int .i64 (rd_T57 l2 a1).f0, .int .i64 (rd_T57 l2 a1).f1.f0, .int .i64 (rd_T57 l2 a1).f1.f1, .int .i64 (rd_T57 l2 a1).f2.f0, .int .i64 (rd_T57 l2 a1).f2.f1] 57)
  have HXB1 := Aside0.mk (below_alloc (Below.refl w5.heap.size w5) (.cells #[.int .i64 (rd_T57 l2 a1).f0, .int .i64 (rd_T57 l2 a1).f1.f0, .int .i64 (rd_T57 l2 a1).f1.f1, .int .i64 (rd_T57 l2 a1).f2.f0, .int .i64 (rd_T57 l2 a1).f2.f1] 57))
  go_upto_region 6 with (fail)
  generalize w5.alloc (.cells #[.int .i64 (rd_T57 l2 a1).f0, .int .i64 (rd_T57 l2 a1).f1.f0, .int .i64 (rd_T57 l2 a1).f1.f1, .int .i64 (rd_T57 l2 a1).f2.f0, .int .i64 (rd_T57 l2 a1).f2.f1] 57) = W8 at HXA HXB1 ⊢
  replace q0' := pw_cell_below HXB1.out (a := ⟨gb, 0, none⟩) (v := .slice A0 l0.length c0) q0'
  replace q1' := pw_cell_below HXB1.out (a := ⟨gb, 1, none⟩) (v := .slice A1 l1.length c1) q1'
  replace q2' := pw_cell_below HXB1.out (a := ⟨gb, 2, none⟩) (v := .slice (some ad) l2.length c2) q2'
  have HB8 := Aside0.mk (below_step HB5.out HXB1.out)
  have HGW := Aside0.mk (show W1.heap.size ≤ w5.heap.size from below_size HB5.out)
  have HLT := Aside0.mk (show gb < W1.heap.size from by rw [HGB.out]; exact blk_lt HX.out)
  obtain ⟨gx, hgx⟩ : ∃ g, g = w5.heap.size := ⟨_, rfl⟩
  have HGX := Aside0.mk (show w5.heap.size ≤ gx by omega)
  rw [← hgx] at HXA HGW ⊢
  have KX := Aside0.mk HXA
  clear hgx HXA m0 m1 m2 m3 m4
  have x3 := (blk_cell KX.out 3).trans (show _ = some (Value.int .i64 (rd_T57 l2 a1).f2.f0) from rfl)
  have x4 := (blk_cell KX.out 4).trans (show _ = some (Value.int .i64 (rd_T57 l2 a1).f2.f1) from rfl)
  have HN := Aside0.mk (show wishbookref00_To.f 0 0 = some (0, 0) from rfl)
  go_upto_region 7 with ((go_at_call 40; (with_reducible refine (wishbookref00_To.calls 0 0 _ _ _ HN.out).mono ?_); rintro e w9 ⟨rfl, hb⟩; replace q0' := pw_cell_below hb (a := ⟨gb, 0, none⟩) (v := .slice A0 l0.length c0) q0'; replace q1' := pw_cell_below hb (a := ⟨gb, 1, none⟩) (v := .slice A1 l1.length c1) q1'; replace q2' := pw_cell_below hb (a := ⟨gb, 2, none⟩) (v := .slice (some ad) l2.length c2) q2'; have HB9 := Aside0.mk (below_step HB8.out hb); have HR9 := Aside0.mk (below_step HXB1.out hb); have KX9 := Aside0.mk (blk_below KX.out hb); clear hb x3 x4; have x3 := (blk_cell KX9.out 3).trans (show _ = some (Value.int .i64 (rd_T57 l2 a1).f2.f0) from rfl); have x4 := (blk_cell KX9.out 4).trans (show _ = some (Value.int .i64 (rd_T57 l2 a1).f2.f1) from rfl); have f3 := blk_frozen KX9.out 3; have f4 := blk_frozen KX9.out 4))
  have KXB := Aside0.mk (blk_put (blk_put (cs := #[.int .i64 (rd_T57 l2 a1).f0, .int .i64 (rd_T57 l2 a1).f1.f0, .int .i64 (rd_T57 l2 a1).f1.f1, .int .i64 (rd_T57 l2 a1).f2.f0, .int .i64 (rd_T57 l2 a1).f2.f1]) KX9.out 3 (.int .i64 0) rfl) 4 (.int .i64 0) rfl)
  have HBB := Aside0.mk (below_set (j := 4) (v := .int .i64 0) (below_set (j := 3) (v := .int .i64 0) HB9.out HGW.out) HGW.out)
  have HRB := Aside0.mk (below_set (j := 4) (v := .int .i64 0) (below_set (j := 3) (v := .int .i64 0) HR9.out HGX.out) HGX.out)
  have hne : gb ≠ gx := by have h1 := HLT.out; have h2 := HGW.out; omega
  have Q0 := Aside0.mk (show ((w9.setCell ⟨gx, 3, none⟩ (.int .i64 0)).setCell ⟨gx, 4, none⟩ (.int .i64 0)).cell? ⟨gb, 0, none⟩ = some (.slice A0 l0.length c0) by go_simp)
  have Q1 := Aside0.mk (show ((w9.setCell ⟨gx, 3, none⟩ (.int .i64 0)).setCell ⟨gx, 4, none⟩ (.int .i64 0)).cell? ⟨gb, 1, none⟩ = some (.slice A1 l1.length c1) by go_simp)
  have Q2 := Aside0.mk (show ((w9.setCell ⟨gx, 3, none⟩ (.int .i64 0)).setCell ⟨gx, 4, none⟩ (.int .i64 0)).cell? ⟨gb, 2, none⟩ = some (.slice (some ad) l2.length c2) by go_simp)
  clear q0' q1' q2' x3 x4 f3 f4 hne
  generalize (w9.setCell ⟨gx, 3, none⟩ (.int .i64 0)).setCell ⟨gx, 4, none⟩ (.int .i64 0) = W9 at KXB HBB HRB Q0 Q1 Q2 ⊢
  have q0 := Q0.out
  have q1 := Q1.out
  have q2 := Q2.out
  have x0 := (blk_cell KXB.out 0).trans (show _ = some (Value.int .i64 (rd_T57 l2 a1).f0) from rfl)
  have x1 := (blk_cell KXB.out 1).trans (show _ = some (Value.int .i64 (rd_T57 l2 a1).f1.f0) from rfl)
  have x2 := (blk_cell KXB.out 2).trans (show _ = some (Value.int .i64 (rd_T57 l2 a1).f1.f1) from rfl)
  have x3 := (blk_cell KXB.out 3).trans (show _ = some (Value.int .i64 0) from rfl)
  have x4 := (blk_cell KXB.out 4).trans (show _ = some (Value.int .i64 0) from rfl)
  go_upto_region 8 with ((go_at_call 61; (with_reducible refine (rwith_walk A0 A1 (some ad) l0.length l1.length c0 c1 c2 l2 a1 ⟨(rd_T57 l2 a1).f0, (rd_T57 l2 a1).f1, ⟨0, 0⟩⟩ _ (Kd.C_below H2.out (by repeat (first | (with_reducible exact HBB.out) | apply below_drew | apply pw_below_drewN))) HC2.out HL2.out ha1 ha2).mono ?_); rintro e w10 ⟨Aw, cw, rfl, hcw, hCw, hb⟩; have HCW := Aside0.mk hCw; have HCL2 := Aside0.mk hcw; have HB10 := Aside0.mk (below_step (by repeat (first | (with_reducible exact HBB.out) | apply below_drew | apply pw_below_drewN)) hb); have HR10 := Aside0.mk (below_step (by repeat (first | (with_reducible exact HRB.out) | apply below_drew | apply pw_below_drewN)) hb); have P1 := Aside0.mk (pw_cell_below hb (a := ⟨gb, 1, none⟩) (v := .slice A1 l1.length c1) q1); clear hcw hCw hb q0 q1 q2 x0 x1 x2 x3 x4))
  have HXY := heap_alloc_new w10 (.cells #[.slice A0 l0.length c0, .slice A1 l1.length c1, .slice Aw l2.length cw] 26)
  have HYB := Aside0.mk (below_alloc (Below.refl w10.heap.size w10) (.cells #[.slice A0 l0.length c0, .slice A1 l1.length c1, .slice Aw l2.length cw] 26))
  generalize w10.alloc (.cells #[.slice A0 l0.length c0, .slice A1 l1.length c1, .slice Aw l2.length cw] 26) = W11 at HXY HYB ⊢
  obtain ⟨gy, hgy⟩ : ∃ g, g = w10.heap.size := ⟨_, rfl⟩
  rw [← hgy] at HXY ⊢
  clear hgy
  have KY := Aside0.mk HXY
  have HB11 := Aside0.mk (below_step HB10.out HYB.out)
  have HR11 := Aside0.mk (below_step HR10.out HYB.out)
  have P11 := Aside0.mk (pw_cell_below HYB.out P1.out)
  have HCW11 := Aside0.mk (Kd.C_below HCW.out HYB.out)
  have Y0 := Aside0.mk ((blk_cell KY.out 0).trans (show _ = some (Value.slice A0 l0.length c0) from rfl))
  have Y1 := Aside0.mk ((blk_cell KY.out 1).trans (show _ = some (Value.slice A1 l1.length c1) from rfl))
  have Y2 := Aside0.mk ((blk_cell KY.out 2).trans (show _ = some (Value.slice Aw l2.length cw) from rfl))
  clear HXY
  go_wp2_with (fail)
  go_loopw [10, 11] (fun v i wr => ∃ j : Nat, j ≤ L.length ∧ i = .int .i64 j ∧ Aside0 (Kd.R (Kd.int .i64) 3 wr W11.heap.size (fun _ => True) v (brokR KB L j)) ∧ Aside0 (Below W11.heap.size W11 wr)) (fun _ i _ => L.length - (intOf i).toNat)
  case atStart => exact ⟨0, by omega, rfl, ⟨Kd.R_nil _ _ _ _ _⟩, ⟨Below.refl _ _⟩⟩
  case round =>
    obtain ⟨j, hj, rfl, HO, HC⟩ := hrel
    by_cases hjl : j < L.length
    · have hL1 := HL1.out
      have hjl1 : (j : Int) < (l1.length : Int) := by omega
      obtain ⟨ad1, e1, k0, k1, k2, k3, k4⟩ := at_T47 (Kd.C_below (Kd.C_below H1.out HB11.out) HC.out) j (by omega) (by omega)
      cases e1
      obtain ⟨adL, eL, s0⟩ := Kd.at_int (Kd.C_below (Kd.C_below HV.out HR11.out) HC.out) j (by omega) (by omega)
      cases eL
      simp only [Int.toNat_natCast] at k1 s0
      clear k0 k2 k3 k4 hL1
      have m1 := pw_cell_below HC.out P11.out
      have y0 := pw_cell_below HC.out Y0.out
      have y1 := pw_cell_below HC.out Y1.out
      have y2 := pw_cell_below HC.out Y2.out
      have hle := brokR_len KB L j
      have hlj : j ≤ 1000 := by have := HLL.out; omega
      have DB := Aside0.mk (show brokR KB L (j + 1) = brokR KB L j ++ (if (decide (0 < rd L (j : Nat)) && !KB j) = true then [(j : Int)] else []) from rfl)
      have hji : (j : Int) < (L.length : Int) := by omega
      go_upto_region 12 with (fail)
      by_cases d : 0 < rd L (j : Nat)
      · have dA : decide (rd L (j : Nat) > 0) = true := decide_eq_true d
        have dB : decide (0 < rd L (j : Nat)) = true := decide_eq_true d
        have HK := HKK.out j hjl
        have i1 : (j : Int) + 1 ≤ (cL : Int) := by have := HCL.out; omega
        have i2 : 0 ≤ (j : Int) + 1 := by omega
        have hwj : IntKind.i64.wrap ((j : Int) + 1) = (j : Int) + 1 := by rw [IntKind.wrap_i64]; omega
        have htn : ((j : Int) + 1).toNat = j + 1 := by omega
        have HJL := Aside0.mk (show j + 1 ≤ L.length by omega)
        cases hK : KB j with
        | true =>
          rw [hK] at HK DB
          rw [dB] at DB
          simp only [Bool.not_true, Bool.and_false, Bool.false_eq_true, if_false, List.append_nil] at DB
          have HK9 := Aside0.mk HK
          clear hK HK
          go_region_held3 (fun W => W.cell? (adL.add j) = some (.int .i64 (rd L j)) ∧ W.cell? ⟨gb, 1, none⟩ = some (.slice (some ad1) l1.length c1) ∧ W.cell? ⟨(ad1.add (j * 5)).block, (ad1.add (j * 5)).off + 1, none⟩ = some (.int .i64 (rd_T47 l1 j).f1) ∧ W.cell? ⟨gy, 0, none⟩ = some (.slice A0 l0.length c0) ∧ W.cell? ⟨gy, 1, none⟩ = some (.slice (some ad1) l1.length c1) ∧ W.cell? ⟨gy, 2, none⟩ = some (.slice Aw l2.length cw)) (go_keep)
            ((go_at_call 63; (with_reducible refine (kept_n k A0 (some ad1) Aw (some adL) c0 c1 cw cL l2.length (j + 1) l0 l1 (l2.set a1.toNat ⟨(rd_T57 l2 a1).f0, (rd_T57 l2 a1).f1, ⟨0, 0⟩⟩) (rd_T47 l1 j).f1 L _ _ (Kd.C_below (Kd.C_below H0.out HB11.out) (by repeat (first | (with_reducible exact HC.out) | apply below_drew | apply pw_below_drewN))) HC0.out (Kd.C_below (Kd.C_below H1.out HB11.out) (by repeat (first | (with_reducible exact HC.out) | apply below_drew | apply pw_below_drewN))) HC1.out List.length_set (Kd.C_below HCW11.out (by repeat (first | (with_reducible exact HC.out) | apply below_drew | apply pw_below_drewN))) HCL2.out (Kd.C_below (Kd.C_below HV.out HR11.out) (by repeat (first | (with_reducible exact HC.out) | apply below_drew | apply pw_below_drewN))) HJL.out HCL.out HK9.out).mono ?_); rintro e w8 ⟨rfl, hb8⟩; have s0' := pw_cell_below hb8 (a := adL.add j) (v := .int .i64 (rd L j)) s0; have m1' := pw_cell_below hb8 (a := ⟨gb, 1, none⟩) (v := .slice (some ad1) l1.length c1) m1; have k1' := pw_cell_below hb8 (a := ⟨(ad1.add (j * 5)).block, (ad1.add (j * 5)).off + 1, none⟩) (v := .int .i64 (rd_T47 l1 j).f1) k1; have y0' := pw_cell_below hb8 (a := ⟨gy, 0, none⟩) (v := .slice A0 l0.length c0) y0; have y1' := pw_cell_below hb8 (a := ⟨gy, 1, none⟩) (v := .slice (some ad1) l1.length c1) y1; have y2' := pw_cell_below hb8 (a := ⟨gy, 2, none⟩) (v := .slice Aw l2.length cw) y2; have HB8_ := Aside0.mk (below_step (by repeat (first | (with_reducible exact HC.out) | apply below_drew | apply pw_below_drewN)) hb8); have HO8 := Aside0.mk (Kd.R_below (by repeat (first | (with_reducible exact HO.out) | apply Kd.R_drew | apply Kd.R_drewN)) hb8); clear hb8))
          all_goals
            clear hwj htn
            go_wp2
            go_roundw
            case rel => exact ⟨j + 1, by omega, by go_num, by rw [DB.out]; exact HO8, HB8_⟩
            case measure => simp [intOf]; omega
        | false =>
          rw [hK] at HK DB
          rw [dB] at DB
          simp only [Bool.not_false, Bool.and_true, if_true] at DB
          have HK9 := Aside0.mk HK
          clear hK HK
          go_region_held3 (fun W => W.cell? (adL.add j) = some (.int .i64 (rd L j)) ∧ W.cell? ⟨gb, 1, none⟩ = some (.slice (some ad1) l1.length c1) ∧ W.cell? ⟨(ad1.add (j * 5)).block, (ad1.add (j * 5)).off + 1, none⟩ = some (.int .i64 (rd_T47 l1 j).f1) ∧ W.cell? ⟨gy, 0, none⟩ = some (.slice A0 l0.length c0) ∧ W.cell? ⟨gy, 1, none⟩ = some (.slice (some ad1) l1.length c1) ∧ W.cell? ⟨gy, 2, none⟩ = some (.slice Aw l2.length cw)) (go_keep)
            ((go_at_call 63; (with_reducible refine (kept_n k A0 (some ad1) Aw (some adL) c0 c1 cw cL l2.length (j + 1) l0 l1 (l2.set a1.toNat ⟨(rd_T57 l2 a1).f0, (rd_T57 l2 a1).f1, ⟨0, 0⟩⟩) (rd_T47 l1 j).f1 L _ _ (Kd.C_below (Kd.C_below H0.out HB11.out) (by repeat (first | (with_reducible exact HC.out) | apply below_drew | apply pw_below_drewN))) HC0.out (Kd.C_below (Kd.C_below H1.out HB11.out) (by repeat (first | (with_reducible exact HC.out) | apply below_drew | apply pw_below_drewN))) HC1.out List.length_set (Kd.C_below HCW11.out (by repeat (first | (with_reducible exact HC.out) | apply below_drew | apply pw_below_drewN))) HCL2.out (Kd.C_below (Kd.C_below HV.out HR11.out) (by repeat (first | (with_reducible exact HC.out) | apply below_drew | apply pw_below_drewN))) HJL.out HCL.out HK9.out).mono ?_); rintro e w8 ⟨rfl, hb8⟩; have s0' := pw_cell_below hb8 (a := adL.add j) (v := .int .i64 (rd L j)) s0; have m1' := pw_cell_below hb8 (a := ⟨gb, 1, none⟩) (v := .slice (some ad1) l1.length c1) m1; have k1' := pw_cell_below hb8 (a := ⟨(ad1.add (j * 5)).block, (ad1.add (j * 5)).off + 1, none⟩) (v := .int .i64 (rd_T47 l1 j).f1) k1; have y0' := pw_cell_below hb8 (a := ⟨gy, 0, none⟩) (v := .slice A0 l0.length c0) y0; have y1' := pw_cell_below hb8 (a := ⟨gy, 1, none⟩) (v := .slice (some ad1) l1.length c1) y1; have y2' := pw_cell_below hb8 (a := ⟨gy, 2, none⟩) (v := .slice Aw l2.length cw) y2; have HB8_ := Aside0.mk (below_step (by repeat (first | (with_reducible exact HC.out) | apply below_drew | apply pw_below_drewN)) hb8); have HO8 := Aside0.mk (Kd.R_below (by repeat (first | (with_reducible exact HO.out) | apply Kd.R_drew | apply Kd.R_drewN)) hb8); clear hb8))
          all_goals
            clear hwj htn
            go_wp2_with (at_builtin; refine Kd.R_append (Kd.int .i64) (w0 := W11) W11.heap.size rfl (.tmp 62) (.tmp 64) 22 3 (.int .i64 0) 8 rfl Tryd.underlying22 info3 rfl (by decide) (by omega) _ (brokR KB L j) (j : Int) [.int .i64 (j : Int)] (fun _ => True) (fun _ => False) rfl rfl ?aP (fun _ hk => hk.elim) ?aF ?aO ?aB ?aS ?aL ?_; (case aP => exact rfl); (case aB => exact HB8_.out); (case aF => exact (fun _ _ => trivial)); (case aO => exact HO8.out); (case aS => exact below_size HB8_.out); (case aL => omega); intro v1 w1 ho1 hb1 hg1 hat1; rw [← DB.out] at ho1; have HO3 := Aside0.mk ho1; have HB3_ := Aside0.mk hb1; clear ho1 hb1 hg1 hat1)
            go_roundw
            case rel => exact ⟨j + 1, by omega, by go_num, HO3, HB3_⟩
            case measure => simp [intOf]; omega
      · have dA : decide (rd L (j : Nat) > 0) = false := decide_eq_false d
        have dB : decide (0 < rd L (j : Nat)) = false := decide_eq_false d
        rw [dB, Bool.false_and, if_neg (by decide), List.append_nil] at DB
        have hwj : IntKind.i64.wrap ((j : Int) + 1) = (j : Int) + 1 := by rw [IntKind.wrap_i64]; omega
        go_quiet (fail)
        go_wp2
        go_roundw
        case rel => exact ⟨j + 1, by omega, by go_num, by rw [DB.out]; exact ⟨Kd.R_drewN HO.out _⟩, ⟨pw_below_drewN HC.out _⟩⟩
        case measure => simp [intOf]; omega
    · obtain rfl : j = L.length := by omega
      have HVO := Aside0.mk (Kd.R_lower HO.out (base' := w.heap.size) (below_size (below_step HW.out HB11.out)))
      go_wp2
      refine bodyPost_ret (results_tmp2 rfl _ _ _) rfl ?_
      exact ⟨_, rfl, HVO.out, below_step HW.out (below_step HB11.out HC.out)⟩
end Go.Proofs.YtegpepnmnlockaaDoor.PL
namespace Go.Proofs.YtegpepnmnlockaaDoor.PL
open Go.RowKit Go.Proofs.YtegpepnmnlockaaDoorW.PrintWords Go.Proofs.YtegpepnmnlockaaDoorW.PrintLast Go.Proofs.YtegpepnmnlockaaDoorW.PrintMore
set_option linter.unusedVariables false
set_option linter.unusedSimpArgs false
theorem RCheck_f (l0 : List Int) (l1 : List S47) (l2 : List S57) (hf : Few l0 l1 l2) : wishbookref10_Check.f l0 l1 l2 = some (if okB l0 l1 l2 = true then 0 else 100) := by
  unfold wishbookref10_Check.f
  rw [if_pos hf]
  rfl
theorem Match_l0 (xs : List Int) (hl : (xs.length : Int) < 9000000000000000000) : ∀ (d i k : Nat), i + d = xs.length → d + 1 ≤ k → wishbookref00_Match.l0 k xs xs true i = some true
  | 0, i, k + 1, hi, hk => by
    unfold wishbookref00_Match.l0
    rw [if_pos rfl, if_neg (by omega)]
  | d + 1, i, k + 1, hi, hk => by
    have ih := Match_l0 xs hl d (i + 1) k (by omega) (by omega)
    unfold wishbookref00_Match.l0
    rw [if_pos rfl, if_pos (by omega), if_pos (by omega), if_pos (by omega), wrap_succ (by omega), beq_self_eq_true]
    exact ih
theorem Match_f (xs : List Int) (hl : (xs.length : Int) < 9000000000000000000) (k : Nat) (hk : xs.length + 1 ≤ k) : wishbookref00_Match.f k xs xs = some true := by
  unfold wishbookref00_Match.f
  rw [beq_self_eq_true]
  exact Match_l0 xs hl xs.length 0 k (by omega) hk
end Go.Proofs.YtegpepnmnlockaaDoor.PL
namespace Go.Proofs.YtegpepnmnlockaaDoor.PL
open Go.RowKit Go.Proofs.YtegpepnmnlockaaDoorW.PrintWords Go.Proofs.YtegpepnmnlockaaDoorW.PrintLast Go.Proofs.YtegpepnmnlockaaDoorW.PrintMore
set_option linter.unusedVariables false
set_option linter.unusedSimpArgs false
theorem keptF_iff (l1 : List S47) (good : Int) (sh : List S49) (F : Int → Int → Int) : keptF l1 good sh F = true ↔ ∀ d : Nat, d < 101 → dueTo l1 good d sh sh.length ≤ F good d := by
  unfold keptF keptUpto
  rw [List.all_eq_true]
  exact ⟨fun h d hd => of_decide_eq_true (h d (List.mem_range.2 hd)), fun h d hd => decide_eq_true (h d (List.mem_range.1 hd))⟩
theorem dueTo_snoc (l1 : List S47) (good d : Int) (sh : List S49) (s : S49) : dueTo l1 good d (sh ++ [s]) (sh ++ [s]).length = dueTo l1 good d sh sh.length + if (rd_T47 l1 sh.length).f1 = good ∧ (rd_T47 l1 sh.length).f3 ≤ d then s.f2 else 0 := by
  rw [List.length_append, List.length_singleton, dueTo, dueTo_cong l1 good d (sh ++ [s]) sh sh.length (fun j hj => by rw [rd_old49 _ _ hj]), rd_snoc49]
theorem keptN_listed {l1 : List S47} {good : Int} {sh : List S49} {F : Int → Int → Int} (h : keptF l1 good sh F = true) : ∀ n, keptN l1 good sh F (listedF l1 good sh F n) = true
  | 0 => by
    unfold keptN listedF
    rw [keptF_iff] at *
    intro d hd
    have := h d hd
    rw [dueTo_snoc]
    split <;> simp <;> omega
  | n + 1 => by
    rw [listedF]
    split
    · assumption
    · exact keptN_listed h n
/-- The list that is told can be kept, of each good, of the first lines. -/
theorem serve_kept {l0 : List Int} {l1 : List S47} {l2 : List S57} (hb : okB l0 l1 l2 = true) (F : Int → Int → Int) (hF : ∀ g d, 0 ≤ F g d) (good : Int) : ∀ k : Nat, k ≤ l1.length → keptF l1 good (serveF l1 F k 0 (left0 l0, [])).2 F = true
  | 0, _ => by
    rw [keptF_iff]
    intro d _
    exact hF good d
  | k + 1, hk => by
    have ih := serve_kept hb F hF good k (by omega)
    obtain ⟨e1, e2, e3, e4⟩ := serve_facts hb F k (by omega)
    have hs := serveF_snoc l1 F k 0 (left0 l0, [])
    rw [Nat.zero_add] at hs
    rw [hs]
    unfold stepF
    generalize serveF l1 F k 0 (left0 l0, []) = s at *
    dsimp only
    by_cases hg : (rd_T47 l1 k).f1 = good
    · subst hg
      have h2 := keptN_listed ih (wantF (rd_T47 l1 k) s.1).toNat
      unfold keptN at h2
      rw [keptF_iff] at *
      intro d hd
      have := h2 d hd
      rw [dueTo_snoc] at *
      exact this
    · rw [keptF_iff] at *
      intro d hd
      have := ih d hd
      rw [e2] at this
      rw [dueTo_snoc, e2, if_neg (fun h => hg h.1)]
      omega
theorem serv_kept {l0 : List Int} {l1 : List S47} {l2 : List S57} (hb : okB l0 l1 l2 = true) (good : Int) : keptF l1 good (servF l0 l1 l2).2 (comTo l2 l2.length) = true :=
  serve_kept hb _ (comTo_nonneg (fun y hy => okDel_of (okB_facts hb).2.1 ((okB_facts hb).2.2.2.2.2.2.2 y hy))) good l1.length (Nat.le_refl _)
end Go.Proofs.YtegpepnmnlockaaDoor.PL

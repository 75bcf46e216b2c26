/- Part 3 of a proof: what the last text rests on. -/
import Derived.Test.YtegpepnmnlockaaDoorXLackMore2
namespace Go.Proofs.YtegpepnmnlockaaDoor.PL
open Go.RowKit Go.Proofs.YtegpepnmnlockaaDoorW.PrintWords Go.Proofs.YtegpepnmnlockaaDoorW.PrintLast Go.Proofs.YtegpepnmnlockaaDoorW.PrintMore
attribute [local go_sem] max2_int min2_int max_two min_two max_three min_three max_four min_four   -- for this text's walks alone
set_option linter.unusedVariables false
set_option linter.unusedSimpArgs false
mutual
def wishbooklaw10_LackMore.j0 : Nat → Bool → List Int → List (S47) → List (S57) → Int → Int → Int → Int → Int → Option (Bool)
  | 0, _, _, _, _, _, _, _, _, _ => none
  | k + 1, x18, x542000, x542001, x542002, x543000, x543001, x543002, x543003, x543004 => if x18 = true then ((wishbooklaw10_listed.f).bind fun t544 => (some t544)) else ((some (([] : List (S47)) : List (S47))).bind fun y546 => (if y546.length + x542001.length < 3518437208883 then ((some (y546 ++ x542001 : List (S47))).bind fun y549 => ((some (([(⟨x543000, x543001, x543002, x543003, x543004⟩ : S47)] : List (S47)) : List (S47))).bind fun y552 => (if y549.length + y552.length < 3518437208883 then ((lack_Shares.f x542000 x542001 x542002).bind fun bt558 => ((lack_Shares.f x542000 (y549 ++ y552) x542002).bind fun bt562 => (if bt558.2 = 0 then (wishbooklaw10_LackMore.j1 k bt558.1 bt562.1 bt562.2 ((bt558.1.length : Int) != (x542001.length : Int))) else (wishbooklaw10_LackMore.j1 k bt558.1 bt562.1 bt562.2 true)))) else (none)))) else (none)))
def wishbooklaw10_LackMore.j1 : Nat → List (S49) → List (S49) → Int → Bool → Option (Bool)
  | 0, _, _, _, _ => none
  | k + 1, x6, x8, x9, x48 => if x48 = true then (some false) else (if x9 = 0 then (if (x8.length : Int) = (wrap64 ((x6.length : Int) + 1)) then (if 0 ≤ (x6.length : Int) then (if (x6.length : Int) ≤ (x8.length : Int) then ((wishbookref10_SameShares.f k (x8.take ((x6.length : Int) : Int).toNat) x6).bind fun t571 => (if t571 = true then ((wishbooklaw10_listed.f).bind fun t572 => (some t572)) else (some false))) else (none)) else (none)) else (some false)) else (if x9 = 100 then (if (x8.length : Int) = 0 then ((wishbooklaw10_listed.f).bind fun t573 => (some t573)) else (some false)) else (some false)))
end
def wishbooklaw10_LackMore.f (k : Nat) (l0_0 : List Int) (l0_1 : List (S47)) (l0_2 : List (S57)) (a1_0 : Int) (a1_1 : Int) (a1_2 : Int) (a1_3 : Int) (a1_4 : Int) : Option (Bool) := (wishbooklaw10_sound.f k l0_0 l0_1 l0_2).bind fun t543 => (if t543 = true then (wishbooklaw10_LackMore.j0 k ((l0_1.length : Int) == 10) l0_0 l0_1 l0_2 a1_0 a1_1 a1_2 a1_3 a1_4) else (wishbooklaw10_LackMore.j0 k true l0_0 l0_1 l0_2 a1_0 a1_1 a1_2 a1_3 a1_4))
theorem wishbooklaw10_LackMore.mono_l : ∀ k, (∀ y0 y1 y2 y3 y4 y5 y6 y7 y8, LeO (wishbooklaw10_LackMore.j0 k y0 y1 y2 y3 y4 y5 y6 y7 y8) (wishbooklaw10_LackMore.j0 (k + 1) y0 y1 y2 y3 y4 y5 y6 y7 y8)) ∧ (∀ y0 y1 y2 y3, LeO (wishbooklaw10_LackMore.j1 k y0 y1 y2 y3) (wishbooklaw10_LackMore.j1 (k + 1) y0 y1 y2 y3))
  | 0 => ⟨fun _ _ _ _ _ _ _ _ _ r h => by simp [wishbooklaw10_LackMore.j0] at h, fun _ _ _ _ r h => by simp [wishbooklaw10_LackMore.j1] at h⟩
  | k + 1 => by
    obtain ⟨ih0, ih1⟩ := wishbooklaw10_LackMore.mono_l k
    refine ⟨?_, ?_⟩
    · intro y0 y1 y2 y3 y4 y5 y6 y7 y8
      unfold wishbooklaw10_LackMore.j0
      repeat' first
      | (with_reducible exact ih0 _ _ _ _ _ _ _ _ _)
      | (with_reducible exact ih1 _ _ _ _)
      | (with_reducible exact wishbooklaw10_sound.mono _ _ _ _)
      | (with_reducible exact wishbookref10_SameShares.mono _ _ _)
      | (with_reducible exact LeO.refl _)
      | (with_reducible exact LeO.none _)
      | (with_reducible refine LeO.ite ?_ ?_)
      | (with_reducible refine LeO.bind ?_ (fun _ => ?_))
      | exact ih0 _ _ _ _ _ _ _ _ _
      | exact ih1 _ _ _ _
      | exact wishbooklaw10_sound.mono _ _ _ _
      | exact wishbookref10_SameShares.mono _ _ _
      | exact LeO.none _
      | refine LeO.ite ?_ ?_
      | refine LeO.bind ?_ (fun _ => ?_)
    · intro y0 y1 y2 y3
      unfold wishbooklaw10_LackMore.j1
      repeat' first
      | (with_reducible exact ih0 _ _ _ _ _ _ _ _ _)
      | (with_reducible exact ih1 _ _ _ _)
      | (with_reducible exact wishbooklaw10_sound.mono _ _ _ _)
      | (with_reducible exact wishbookref10_SameShares.mono _ _ _)
      | (with_reducible exact LeO.refl _)
      | (with_reducible exact LeO.none _)
      | (with_reducible refine LeO.ite ?_ ?_)
      | (with_reducible refine LeO.bind ?_ (fun _ => ?_))
      | exact ih0 _ _ _ _ _ _ _ _ _
      | exact ih1 _ _ _ _
      | exact wishbooklaw10_sound.mono _ _ _ _
      | exact wishbookref10_SameShares.mono _ _ _
      | exact LeO.none _
      | refine LeO.ite ?_ ?_
      | refine LeO.bind ?_ (fun _ => ?_)
theorem wishbooklaw10_LackMore.mono : ∀ a0 a1 a2 a3 a4 a5 a6 a7 k, LeO (wishbooklaw10_LackMore.f k a0 a1 a2 a3 a4 a5 a6 a7) (wishbooklaw10_LackMore.f (k + 1) a0 a1 a2 a3 a4 a5 a6 a7) := by
  intro a0 a1 a2 a3 a4 a5 a6 a7 k
  obtain ⟨ih0, ih1⟩ := wishbooklaw10_LackMore.mono_l k
  unfold wishbooklaw10_LackMore.f
  repeat' first
      | (with_reducible exact ih0 _ _ _ _ _ _ _ _ _)
      | (with_reducible exact ih1 _ _ _ _)
      | (with_reducible exact wishbooklaw10_sound.mono _ _ _ _)
      | (with_reducible exact wishbookref10_SameShares.mono _ _ _)
      | (with_reducible exact LeO.refl _)
      | (with_reducible exact LeO.none _)
      | (with_reducible refine LeO.ite ?_ ?_)
      | (with_reducible refine LeO.bind ?_ (fun _ => ?_))
      | exact ih0 _ _ _ _ _ _ _ _ _
      | exact ih1 _ _ _ _
      | exact wishbooklaw10_sound.mono _ _ _ _
      | exact wishbookref10_SameShares.mono _ _ _
      | exact LeO.none _
      | refine LeO.ite ?_ ?_
      | refine LeO.bind ?_ (fun _ => ?_)
def wishbooklaw10_LackMore.T4 : Bool × List (List Nat × List Nat) := (true, [([], []), ([], []), ([1], [1]), ([0, 2], [0, 2]), ([], []), ([4], [4]), ([3, 5, 3], [3, 5]), ([0, 1, 2, 3, 4, 5, 6], []), ([7, 6, 6, 0, 1, 2, 3, 4, 5, 6], [6, 7])])
def wishbooklaw10_LackMore.B4 : List Nat := [0, 0, 2, 7, 0, 16, 63, 127, 255]
theorem wishbooklaw10_LackMore.tab4 : rtab .any (opsOf Tryd.f9 4) = wishbooklaw10_LackMore.T4 := by kernel_rfl
theorem wishbooklaw10_LackMore.bits4 : waitsOk wishbooklaw10_LackMore.T4.2 wishbooklaw10_LackMore.B4 = true := by kernel_rfl
set_option maxHeartbeats 8000000 in
set_option maxRecDepth 100000 in
theorem wishbooklaw10_LackMore.calls (k : Nat) (A0_0 : Option Addr) (c0_0 : Nat) (l0_0 : List Int) (A0_1 : Option Addr) (c0_1 : Nat) (l0_1 : List (S47)) (A0_2 : Option Addr) (c0_2 : Nat) (l0_2 : List (S57)) (a1_0 : Int) (a1_1 : Int) (a1_2 : Int) (a1_3 : Int) (a1_4 : Int) (r : Bool) (w : World) (hr0_0 : Kd.C (Kd.int .i64) w A0_0 l0_0.length l0_0) (hc0_0 : l0_0.length ≤ c0_0) (hr0_1 : Kd.C k47 w A0_1 l0_1.length l0_1) (hc0_1 : l0_1.length ≤ c0_1) (hr0_2 : Kd.C k57 w A0_2 l0_2.length l0_2) (hc0_2 : l0_2.length ≤ c0_2) (hfa : Fates w) (h : wishbooklaw10_LackMore.f k l0_0 l0_1 l0_2 a1_0 a1_1 a1_2 a1_3 a1_4 = some r) :
    Calls Tryd.prog 9 #[.agg #[.slice A0_0 l0_0.length c0_0, .slice A0_1 l0_1.length c0_1, .slice A0_2 l0_2.length c0_2], .agg #[.int .i64 a1_0, .int .i64 a1_1, .int .i64 a1_2, .int .i64 a1_3, .int .i64 a1_4]] w fun e w' => e = .returned (.bool r) ∧ Below w.heap.size w w' := by
  have HFA := Aside0.mk hfa
  clear hfa
  have hu26 := Tryd.underlying26
  have hu47 := Tryd.underlying47
  have HR0_0 := Aside0.mk hr0_0
  have HC0_0 := Aside0.mk hc0_0
  clear hr0_0 hc0_0
  have HR0_1 := Aside0.mk hr0_1
  have HC0_1 := Aside0.mk hc0_1
  clear hr0_1 hc0_1
  have HR0_2 := Aside0.mk hr0_2
  have HC0_2 := Aside0.mk hc0_2
  clear hr0_2 hc0_2
  have HB := Aside0.mk (Below.refl w.heap.size w)
  have H : ((wishbooklaw10_sound.f k l0_0 l0_1 l0_2).bind fun t543 => (if t543 = true then (wishbooklaw10_LackMore.j0 k ((l0_1.length : Int) == 10) l0_0 l0_1 l0_2 a1_0 a1_1 a1_2 a1_3 a1_4) else (wishbooklaw10_LackMore.j0 k true l0_0 l0_1 l0_2 a1_0 a1_1 a1_2 a1_3 a1_4))) = some r := h
  clear h
  have HC3 := Aside0.mk H
  clear H
  go_enter Tryd.func9, Tryd.ntmps9
  go_upto_region 1 with (first | ((with_reducible refine gate_dst (N := 2) rfl ?_); (try (refine gate_guard (by rfl) ?_; dsimp only)); refine box_event ?hg (N := 2) ?hd (cs := #[.slice A0_0 l0_0.length c0_0, .slice A0_1 l0_1.length c0_1, .slice A0_2 l0_2.length c0_2]) (t := 26) ?hr ?_; (case hd => rfl); (case hg => rfl); (case hr => first | (go_simp; done) | (go_simp; rfl)); intro gb541 hg w4 hbox hb; have n0_ := Aside0.mk (below_step (by repeat (first | (with_reducible first | exact HB.out | apply below_alloc | apply pw_below_drewN | apply below_drew1) | exact HB.out)) hb); have n1_ := Aside0.mk (hbox); have n2_ := Aside0.mk ((by rw [hg]; exact (below_size (by repeat (first | (with_reducible first | exact HB.out | apply below_alloc | apply pw_below_drewN | apply below_drew1) | exact HB.out))) : w.heap.size ≤ gb541)); have n3_ := Aside0.mk ((by rw [hg]; exact (below_size (by repeat (first | (with_reducible first | exact HB.out | apply below_alloc | apply pw_below_drewN | apply below_drew1) | exact HB.out))) : w.heap.size ≤ gb541)); clear HB; have HB := n0_; have BK541 := n1_; have GW541 := n2_; have GE541 := n3_; clear n0_ n1_ n2_ n3_; clear hb hbox hg) | ((with_reducible refine gate_dst (N := 3) rfl ?_); (try (refine gate_guard (by rfl) ?_; dsimp only)); refine box_event ?hg (N := 3) ?hd (cs := #[.int .i64 a1_0, .int .i64 a1_1, .int .i64 a1_2, .int .i64 a1_3, .int .i64 a1_4]) (t := 47) ?hr ?_; (case hd => rfl); (case hg => rfl); (case hr => first | (go_simp; done) | (go_simp; rfl)); intro gb542 hg w5 hbox hb; have n0_ := Aside0.mk (blk_below (g := gb541) (o := .cells #[.slice A0_0 l0_0.length c0_0, .slice A0_1 l0_1.length c0_1, .slice A0_2 l0_2.length c0_2] 26 (0, 0)) (by (with_reducible repeat (first | refine blk_drewN ?_ _ | refine blk_drew ?_ | refine blk_alloc ?_ _)); exact BK541.out) hb); have n1_ := Aside0.mk (below_step (by repeat (first | (with_reducible first | exact HB.out | apply below_alloc | apply pw_below_drewN | apply below_drew1 | refine below_set ?_ GE541.out) | exact HB.out)) hb); have n2_ := Aside0.mk (hbox); have n3_ := Aside0.mk ((by rw [hg]; exact (below_size (by repeat (first | (with_reducible first | exact HB.out | apply below_alloc | apply pw_below_drewN | apply below_drew1 | refine below_set ?_ GE541.out) | exact HB.out))) : w.heap.size ≤ gb542)); have n4_ := Aside0.mk ((by rw [hg]; exact (below_size (by repeat (first | (with_reducible first | exact HB.out | apply below_alloc | apply pw_below_drewN | apply below_drew1 | refine below_set ?_ GE541.out) | exact HB.out))) : w.heap.size ≤ gb542)); have n5_ := Aside0.mk ((by rw [hg]; exact Nat.ne_of_lt (blk_lt (g := gb541) (o := .cells #[.slice A0_0 l0_0.length c0_0, .slice A0_1 l0_1.length c0_1, .slice A0_2 l0_2.length c0_2] 26 (0, 0)) (by (with_reducible repeat (first | refine blk_drewN ?_ _ | refine blk_drew ?_ | refine blk_alloc ?_ _)); exact BK541.out)) : gb541 ≠ gb542)); have n6_ := Aside0.mk ((by rw [hg]; exact Nat.ne_of_gt (blk_lt (g := gb541) (o := .cells #[.slice A0_0 l0_0.length c0_0, .slice A0_1 l0_1.length c0_1, .slice A0_2 l0_2.length c0_2] 26 (0, 0)) (by (with_reducible repeat (first | refine blk_drewN ?_ _ | refine blk_drew ?_ | refine blk_alloc ?_ _)); exact BK541.out)) : gb542 ≠ gb541)); clear BK541; clear HB; have BK541 := n0_; have HB := n1_; have BK542 := n2_; have GW542 := n3_; have GE542 := n4_; have NB541_542 := n5_; have NB542_541 := n6_; clear n0_ n1_ n2_ n3_ n4_ n5_ n6_; clear hb hbox hg))
  (try simp only [Act.put, List.setIfInBounds_toArray, List.set_cons_zero, List.set_cons_succ])
  go_cut [18] (fun v18 wc => ∃ (kq : Nat) (x18_2 : Bool), v18 = .bool x18_2 ∧ Aside0 (wishbooklaw10_LackMore.j0 kq x18_2 l0_0 l0_1 l0_2 a1_0 a1_1 a1_2 a1_3 a1_4 = some r) ∧ Aside0 (kq ≤ k) ∧ Aside0 (wc.heap[gb541]? = some (.cells #[(.slice A0_0 l0_0.length c0_0), (.slice A0_1 l0_1.length c0_1), (.slice A0_2 l0_2.length c0_2)] 26 (0, 0))) ∧ Aside0 (wc.heap[gb542]? = some (.cells #[.int .i64 a1_0, .int .i64 a1_1, .int .i64 a1_2, .int .i64 a1_3, .int .i64 a1_4] 47 (0, 0))) ∧ Aside0 (Below w.heap.size w wc))
  case first =>
    have H := HC3.out
    clear HC3
    replace H := Option.bind_eq_some_iff.mp H
    obtain ⟨t543, A60, H⟩ := H
    replace H : (if t543 = true then (wishbooklaw10_LackMore.j0 k ((l0_1.length : Int) == 10) l0_0 l0_1 l0_2 a1_0 a1_1 a1_2 a1_3 a1_4) else (wishbooklaw10_LackMore.j0 k true l0_0 l0_1 l0_2 a1_0 a1_1 a1_2 a1_3 a1_4)) = some r := H
    have A6 := Aside0.mk A60
    clear A60
    by_cases c7 : t543 = true
    · subst c7
      have H1 : (wishbooklaw10_LackMore.j0 k ((l0_1.length : Int) == 10) l0_0 l0_1 l0_2 a1_0 a1_1 a1_2 a1_3 a1_4) = some r := by rw [if_pos rfl] at H; exact H
      clear H
      have H := H1
      clear H1
      have H' := Aside0.mk H
      clear H
      have hnb8 := NB541_542.out
      have hnc8 := NB542_541.out
      have hcz9_0 : w5.cell? ⟨gb541, 0, none⟩ = some (.slice A0_0 l0_0.length c0_0) := (blk_cell BK541.out 0).trans rfl
      have hcz9_1 : w5.cell? ⟨gb541, 1, none⟩ = some (.slice A0_1 l0_1.length c0_1) := (blk_cell BK541.out 1).trans rfl
      have hcz9_2 : w5.cell? ⟨gb541, 2, none⟩ = some (.slice A0_2 l0_2.length c0_2) := (blk_cell BK541.out 2).trans rfl
      have hfz9_0 := blk_frozen BK541.out 0
      have hfz9_1 := blk_frozen BK541.out 1
      have hfz9_2 := blk_frozen BK541.out 2
      go_wp2_with (first | ((with_reducible refine gate_callee (f := 30) rfl ?_); refine goesL_ (some 11) rfl rfl Tryd.func30 (by kernel_rfl) rfl #[.agg #[.slice A0_0 l0_0.length c0_0, .slice A0_1 l0_1.length c0_1, .slice A0_2 l0_2.length c0_2]] rfl (by (try simp only [List.map_toArray, List.map_cons, List.map_nil]); first | done | rfl | (simp only [List.length_drop, List.length_take]; rfl)) ?_; (with_reducible refine (wishbooklaw10_sound.calls k _ _ l0_0 _ _ l0_1 _ _ l0_2 true _ ?side1 ?side2 ?side3 ?side4 ?side5 ?side6 A6.out).mono ?_); (case side1 => repeat (first | exact (Kd.C_below HR0_0.out HB.out) | (with_reducible refine Kd.C_alloc ?_ _) | (with_reducible refine Kd.C_drewN ?_ _) | (with_reducible refine Kd.C_drew ?_))); (case side2 => exact HC0_0.out); (case side3 => repeat (first | exact (Kd.C_below HR0_1.out HB.out) | (with_reducible refine Kd.C_alloc ?_ _) | (with_reducible refine Kd.C_drewN ?_ _) | (with_reducible refine Kd.C_drew ?_))); (case side4 => exact HC0_1.out); (case side5 => repeat (first | exact (Kd.C_below HR0_2.out HB.out) | (with_reducible refine Kd.C_alloc ?_ _) | (with_reducible refine Kd.C_drewN ?_ _) | (with_reducible refine Kd.C_drew ?_))); (case side6 => exact HC0_2.out); rintro e w10 ⟨rfl, hb⟩; refine ⟨_, rfl, ?_⟩; have n0_ := Aside0.mk (blk_below (g := gb541) (o := .cells #[.slice A0_0 l0_0.length c0_0, .slice A0_1 l0_1.length c0_1, .slice A0_2 l0_2.length c0_2] 26 (0, 0)) (by (with_reducible repeat (first | refine blk_drewN ?_ _ | refine blk_drew ?_ | refine blk_alloc ?_ _)); exact BK541.out) hb); have n1_ := Aside0.mk (blk_below (g := gb542) (o := .cells #[.int .i64 a1_0, .int .i64 a1_1, .int .i64 a1_2, .int .i64 a1_3, .int .i64 a1_4] 47 (0, 0)) (by (with_reducible repeat (first | refine blk_drewN ?_ _ | refine blk_drew ?_ | refine blk_alloc ?_ _)); exact BK542.out) hb); have n2_ := Aside0.mk (below_step (by repeat (first | (with_reducible first | exact HB.out | apply below_alloc | apply pw_below_drewN | apply below_drew1 | refine below_set ?_ GE541.out | refine below_set ?_ GE542.out) | exact HB.out)) hb); clear BK541; clear BK542; clear HB; have BK541 := n0_; have BK542 := n1_; have HB := n2_; clear n0_ n1_ n2_; (try clear hb); (try clear hb2); (try clear hk); (try clear hi); have hcz11_0 : w10.cell? ⟨gb541, 0, none⟩ = some (.slice A0_0 l0_0.length c0_0) := (blk_cell BK541.out 0).trans rfl; have hcz11_1 : w10.cell? ⟨gb541, 1, none⟩ = some (.slice A0_1 l0_1.length c0_1) := (blk_cell BK541.out 1).trans rfl; have hcz11_2 : w10.cell? ⟨gb541, 2, none⟩ = some (.slice A0_2 l0_2.length c0_2) := (blk_cell BK541.out 2).trans rfl; have hfz11_0 := blk_frozen BK541.out 0; have hfz11_1 := blk_frozen BK541.out 1; have hfz11_2 := blk_frozen BK541.out 2))
      go_meet
      case rel => exact ⟨_, (((l0_1.length : Int) == 10)), (by first | rfl | (simp; done) | (simp [*]; done)), H', ⟨by first | omega | exact Nat.le_refl _⟩, ⟨by (with_reducible repeat (first | refine blk_drewN ?_ _ | refine blk_drew ?_ | refine blk_alloc ?_ _)); exact BK541.out⟩, ⟨by (with_reducible repeat (first | refine blk_drewN ?_ _ | refine blk_drew ?_ | refine blk_alloc ?_ _)); exact BK542.out⟩, ⟨by repeat (first | (with_reducible first | exact HB.out | apply below_alloc | apply pw_below_drewN | apply below_drew1 | refine below_set ?_ GE541.out | refine below_set ?_ GE542.out) | exact HB.out)⟩⟩
    · replace c7 := Bool.eq_false_iff.mpr c7
      subst c7
      have H1 : (wishbooklaw10_LackMore.j0 k true l0_0 l0_1 l0_2 a1_0 a1_1 a1_2 a1_3 a1_4) = some r := by rw [if_neg (show ¬ (false = true) by decide)] at H; exact H
      clear H
      have H := H1
      clear H1
      have H' := Aside0.mk H
      clear H
      have hnb12 := NB541_542.out
      have hnc12 := NB542_541.out
      have hcz13_0 : w5.cell? ⟨gb541, 0, none⟩ = some (.slice A0_0 l0_0.length c0_0) := (blk_cell BK541.out 0).trans rfl
      have hcz13_1 : w5.cell? ⟨gb541, 1, none⟩ = some (.slice A0_1 l0_1.length c0_1) := (blk_cell BK541.out 1).trans rfl
      have hcz13_2 : w5.cell? ⟨gb541, 2, none⟩ = some (.slice A0_2 l0_2.length c0_2) := (blk_cell BK541.out 2).trans rfl
      have hfz13_0 := blk_frozen BK541.out 0
      have hfz13_1 := blk_frozen BK541.out 1
      have hfz13_2 := blk_frozen BK541.out 2
      go_wp2_with (first | ((with_reducible refine gate_callee (f := 30) rfl ?_); refine goesL_ (some 11) rfl rfl Tryd.func30 (by kernel_rfl) rfl #[.agg #[.slice A0_0 l0_0.length c0_0, .slice A0_1 l0_1.length c0_1, .slice A0_2 l0_2.length c0_2]] rfl (by (try simp only [List.map_toArray, List.map_cons, List.map_nil]); first | done | rfl | (simp only [List.length_drop, List.length_take]; rfl)) ?_; (with_reducible refine (wishbooklaw10_sound.calls k _ _ l0_0 _ _ l0_1 _ _ l0_2 false _ ?side1 ?side2 ?side3 ?side4 ?side5 ?side6 A6.out).mono ?_); (case side1 => repeat (first | exact (Kd.C_below HR0_0.out HB.out) | (with_reducible refine Kd.C_alloc ?_ _) | (with_reducible refine Kd.C_drewN ?_ _) | (with_reducible refine Kd.C_drew ?_))); (case side2 => exact HC0_0.out); (case side3 => repeat (first | exact (Kd.C_below HR0_1.out HB.out) | (with_reducible refine Kd.C_alloc ?_ _) | (with_reducible refine Kd.C_drewN ?_ _) | (with_reducible refine Kd.C_drew ?_))); (case side4 => exact HC0_1.out); (case side5 => repeat (first | exact (Kd.C_below HR0_2.out HB.out) | (with_reducible refine Kd.C_alloc ?_ _) | (with_reducible refine Kd.C_drewN ?_ _) | (with_reducible refine Kd.C_drew ?_))); (case side6 => exact HC0_2.out); rintro e w14 ⟨rfl, hb⟩; refine ⟨_, rfl, ?_⟩; have n0_ := Aside0.mk (blk_below (g := gb541) (o := .cells #[.slice A0_0 l0_0.length c0_0, .slice A0_1 l0_1.length c0_1, .slice A0_2 l0_2.length c0_2] 26 (0, 0)) (by (with_reducible repeat (first | refine blk_drewN ?_ _ | refine blk_drew ?_ | refine blk_alloc ?_ _)); exact BK541.out) hb); have n1_ := Aside0.mk (blk_below (g := gb542) (o := .cells #[.int .i64 a1_0, .int .i64 a1_1, .int .i64 a1_2, .int .i64 a1_3, .int .i64 a1_4] 47 (0, 0)) (by (with_reducible repeat (first | refine blk_drewN ?_ _ | refine blk_drew ?_ | refine blk_alloc ?_ _)); exact BK542.out) hb); have n2_ := Aside0.mk (below_step (by repeat (first | (with_reducible first | exact HB.out | apply below_alloc | apply pw_below_drewN | apply below_drew1 | refine below_set ?_ GE541.out | refine below_set ?_ GE542.out) | exact HB.out)) hb); clear BK541; clear BK542; clear HB; have BK541 := n0_; have BK542 := n1_; have HB := n2_; clear n0_ n1_ n2_; (try clear hb); (try clear hb2); (try clear hk); (try clear hi)))
      go_meet
      case rel => exact ⟨_, (true), (by first | rfl | (simp; done) | (simp [*]; done)), H', ⟨by first | omega | exact Nat.le_refl _⟩, ⟨by (with_reducible repeat (first | refine blk_drewN ?_ _ | refine blk_drew ?_ | refine blk_alloc ?_ _)); exact BK541.out⟩, ⟨by (with_reducible repeat (first | refine blk_drewN ?_ _ | refine blk_drew ?_ | refine blk_alloc ?_ _)); exact BK542.out⟩, ⟨by repeat (first | (with_reducible first | exact HB.out | apply below_alloc | apply pw_below_drewN | apply below_drew1 | refine below_set ?_ GE541.out | refine below_set ?_ GE542.out) | exact HB.out)⟩⟩
  case rest =>
    clear HC3
    try clear c1
    try clear p2
    try clear c3
    try clear c7
    try clear c8
    try clear c9
    try clear c12
    try clear hcz11_0
    try clear hcz11_1
    try clear hcz11_2
    try clear hcz13_0
    try clear hcz13_1
    try clear hcz13_2
    try clear hcz9_0
    try clear hcz9_1
    try clear hcz9_2
    try clear hfz11_0
    try clear hfz11_1
    try clear hfz11_2
    try clear hfz13_0
    try clear hfz13_1
    try clear hfz13_2
    try clear hfz9_0
    try clear hfz9_1
    try clear hfz9_2
    obtain ⟨kq, x18_2, rfl, HA, HJ2, BK541, BK542, HB⟩ := hcut
    cases kq with
    | zero => exact absurd HA.out (by simp [wishbooklaw10_LackMore.j0])
    | succ kj2 =>
      have H := HA.out
      clear HA
      simp only [wishbooklaw10_LackMore.j0] at H
      by_cases c15 : x18_2 = true
      · subst c15
        have H1 : ((wishbooklaw10_listed.f).bind fun t544 => (some t544)) = some r := by rw [if_pos rfl] at H; exact H
        clear H
        have H := H1
        clear H1
        replace H := Option.bind_eq_some_iff.mp H
        obtain ⟨t544, A160, H⟩ := H
        replace H : (some t544) = some r := H
        have A16 := Aside0.mk A160
        clear A160
        obtain rfl := Option.some.inj H
        go_wp2_with (first | ((with_reducible refine gate_callee (f := 19) rfl ?_); refine goesL_ (some 19) rfl rfl Tryd.func19 (by kernel_rfl) rfl #[] rfl (by (try simp only [List.map_toArray, List.map_cons, List.map_nil]); first | done | rfl | (simp only [List.length_drop, List.length_take]; rfl)) ?_; (with_reducible refine (wishbooklaw10_listed.calls  t544 _ ?sideF A16.out).mono ?_); (case sideF => exact Fates.below HFA.out (by repeat (first | (with_reducible first | exact HB.out | apply below_alloc | apply pw_below_drewN | apply below_drew1 | refine below_set ?_ GE541.out | refine below_set ?_ GE542.out) | exact HB.out))); rintro e w17 ⟨rfl, hb⟩; refine ⟨_, rfl, ?_⟩; have n0_ := Aside0.mk (blk_below (g := gb541) (o := .cells #[.slice A0_0 l0_0.length c0_0, .slice A0_1 l0_1.length c0_1, .slice A0_2 l0_2.length c0_2] 26 (0, 0)) (by (with_reducible repeat (first | refine blk_drewN ?_ _ | refine blk_drew ?_ | refine blk_alloc ?_ _)); exact BK541.out) hb); have n1_ := Aside0.mk (blk_below (g := gb542) (o := .cells #[.int .i64 a1_0, .int .i64 a1_1, .int .i64 a1_2, .int .i64 a1_3, .int .i64 a1_4] 47 (0, 0)) (by (with_reducible repeat (first | refine blk_drewN ?_ _ | refine blk_drew ?_ | refine blk_alloc ?_ _)); exact BK542.out) hb); have n2_ := Aside0.mk (below_step (by repeat (first | (with_reducible first | exact HB.out | apply below_alloc | apply pw_below_drewN | apply below_drew1 | refine below_set ?_ GE541.out | refine below_set ?_ GE542.out) | exact HB.out)) hb); clear BK541; clear BK542; clear HB; have BK541 := n0_; have BK542 := n1_; have HB := n2_; clear n0_ n1_ n2_; (try clear hb); (try clear hb2); (try clear hk); (try clear hi)))
        go_ret
        exact ⟨by first | rfl | (simp [errW_none, errW_some] <;> rfl) | (simp [*, errW_none, errW_some] <;> rfl), by repeat (first | (with_reducible first | exact HB.out | apply below_alloc | apply pw_below_drewN | apply below_drew1 | refine below_set ?_ GE541.out | refine below_set ?_ GE542.out) | exact HB.out)⟩
      · replace c15 := Bool.eq_false_iff.mpr c15
        subst c15
        have H1 : ((some (([] : List (S47)) : List (S47))).bind fun y546 => (if y546.length + l0_1.length < 3518437208883 then ((some (y546 ++ l0_1 : List (S47))).bind fun y549 => ((some (([(⟨a1_0, a1_1, a1_2, a1_3, a1_4⟩ : S47)] : List (S47)) : List (S47))).bind fun y552 => (if y549.length + y552.length < 3518437208883 then ((lack_Shares.f l0_0 l0_1 l0_2).bind fun bt558 => ((lack_Shares.f l0_0 (y549 ++ y552) l0_2).bind fun bt562 => (if bt558.2 = 0 then (wishbooklaw10_LackMore.j1 kj2 bt558.1 bt562.1 bt562.2 ((bt558.1.length : Int) != (l0_1.length : Int))) else (wishbooklaw10_LackMore.j1 kj2 bt558.1 bt562.1 bt562.2 true)))) else (none)))) else (none))) = some r := by rw [if_neg (show ¬ (false = true) by decide)] at H; exact H
        clear H
        have H := H1
        clear H1
        obtain ⟨y546, hy546⟩ : ∃ y_ : List (S47), y_ = (([] : List (S47))) := ⟨_, rfl⟩
        replace H : (if y546.length + l0_1.length < 3518437208883 then ((some (y546 ++ l0_1 : List (S47))).bind fun y549 => ((some (([(⟨a1_0, a1_1, a1_2, a1_3, a1_4⟩ : S47)] : List (S47)) : List (S47))).bind fun y552 => (if y549.length + y552.length < 3518437208883 then ((lack_Shares.f l0_0 l0_1 l0_2).bind fun bt558 => ((lack_Shares.f l0_0 (y549 ++ y552) l0_2).bind fun bt562 => (if bt558.2 = 0 then (wishbooklaw10_LackMore.j1 kj2 bt558.1 bt562.1 bt562.2 ((bt558.1.length : Int) != (l0_1.length : Int))) else (wishbooklaw10_LackMore.j1 kj2 bt558.1 bt562.1 bt562.2 true)))) else (none)))) else (none)) = some r := by first | (rw [hy546]; with_reducible exact H) | (have H2_ := (Option.bind_some _ _).symm.trans H; rw [hy546]; with_reducible exact H2_) | (have H2_ := (Option.bind_some _ _).symm.trans H; with_reducible exact H2_) | with_reducible exact H | (rw [hy546]; exact H) | exact H
        have Ny546 := Aside0.mk hy546
        clear hy546
        by_cases c18 : y546.length + l0_1.length < 3518437208883
        · rw [if_pos c18] at H
          have LMc18 := Aside0.mk c18
          clear c18
          obtain ⟨y549, hy549⟩ : ∃ y_ : List (S47), y_ = (y546 ++ l0_1) := ⟨_, rfl⟩
          replace H : ((some (([(⟨a1_0, a1_1, a1_2, a1_3, a1_4⟩ : S47)] : List (S47)) : List (S47))).bind fun y552 => (if y549.length + y552.length < 3518437208883 then ((lack_Shares.f l0_0 l0_1 l0_2).bind fun bt558 => ((lack_Shares.f l0_0 (y549 ++ y552) l0_2).bind fun bt562 => (if bt558.2 = 0 then (wishbooklaw10_LackMore.j1 kj2 bt558.1 bt562.1 bt562.2 ((bt558.1.length : Int) != (l0_1.length : Int))) else (wishbooklaw10_LackMore.j1 kj2 bt558.1 bt562.1 bt562.2 true)))) else (none))) = some r := by first | (rw [hy549]; with_reducible exact H) | (have H2_ := (Option.bind_some _ _).symm.trans H; rw [hy549]; with_reducible exact H2_) | (have H2_ := (Option.bind_some _ _).symm.trans H; with_reducible exact H2_) | with_reducible exact H | (rw [hy549]; exact H) | exact H
          have Ny549 := Aside0.mk hy549
          clear hy549
          obtain ⟨y552, hy552⟩ : ∃ y_ : List (S47), y_ = (([(⟨a1_0, a1_1, a1_2, a1_3, a1_4⟩ : S47)] : List (S47))) := ⟨_, rfl⟩
          replace H : (if y549.length + y552.length < 3518437208883 then ((lack_Shares.f l0_0 l0_1 l0_2).bind fun bt558 => ((lack_Shares.f l0_0 (y549 ++ y552) l0_2).bind fun bt562 => (if bt558.2 = 0 then (wishbooklaw10_LackMore.j1 kj2 bt558.1 bt562.1 bt562.2 ((bt558.1.length : Int) != (l0_1.length : Int))) else (wishbooklaw10_LackMore.j1 kj2 bt558.1 bt562.1 bt562.2 true)))) else (none)) = some r := by first | (rw [hy552]; with_reducible exact H) | (have H2_ := (Option.bind_some _ _).symm.trans H; rw [hy552]; with_reducible exact H2_) | (have H2_ := (Option.bind_some _ _).symm.trans H; with_reducible exact H2_) | with_reducible exact H | (rw [hy552]; exact H) | exact H
          have Ny552 := Aside0.mk hy552
          clear hy552
          by_cases c19 : y549.length + y552.length < 3518437208883
          · rw [if_pos c19] at H
            have LMc19 := Aside0.mk c19
            clear c19
            obtain ⟨y555, hy555⟩ : ∃ y_ : List (S47), y_ = (y549 ++ y552) := ⟨_, rfl⟩
            replace H : ((lack_Shares.f l0_0 l0_1 l0_2).bind fun bt558 => ((lack_Shares.f l0_0 y555 l0_2).bind fun bt562 => (if bt558.2 = 0 then (wishbooklaw10_LackMore.j1 kj2 bt558.1 bt562.1 bt562.2 ((bt558.1.length : Int) != (l0_1.length : Int))) else (wishbooklaw10_LackMore.j1 kj2 bt558.1 bt562.1 bt562.2 true)))) = some r := by first | (rw [hy555]; with_reducible exact H) | (have H2_ := (Option.bind_some _ _).symm.trans H; rw [hy555]; with_reducible exact H2_) | (have H2_ := (Option.bind_some _ _).symm.trans H; with_reducible exact H2_) | with_reducible exact H | (rw [hy555]; exact H) | exact H
            have Ny555 := Aside0.mk hy555
            clear hy555
            replace H := Option.bind_eq_some_iff.mp H
            obtain ⟨⟨t558, t561⟩, A200, H⟩ := H
            replace H : ((lack_Shares.f l0_0 y555 l0_2).bind fun bt562 => (if t561 = 0 then (wishbooklaw10_LackMore.j1 kj2 t558 bt562.1 bt562.2 ((t558.length : Int) != (l0_1.length : Int))) else (wishbooklaw10_LackMore.j1 kj2 t558 bt562.1 bt562.2 true))) = some r := H
            have A20 := Aside0.mk A200
            clear A200
            replace H := Option.bind_eq_some_iff.mp H
            obtain ⟨⟨t562, t565⟩, A210, H⟩ := H
            replace H : (if t561 = 0 then (wishbooklaw10_LackMore.j1 kj2 t558 t562 t565 ((t558.length : Int) != (l0_1.length : Int))) else (wishbooklaw10_LackMore.j1 kj2 t558 t562 t565 true)) = some r := H
            have A21 := Aside0.mk A210
            clear A210
            have HC22 := Aside0.mk H
            clear H
            have hnb23 := NB541_542.out
            have hnc23 := NB542_541.out
            have hcz24_0 : wc.cell? ⟨gb541, 0, none⟩ = some (.slice A0_0 l0_0.length c0_0) := (blk_cell BK541.out 0).trans rfl
            have hcz24_1 : wc.cell? ⟨gb541, 1, none⟩ = some (.slice A0_1 l0_1.length c0_1) := (blk_cell BK541.out 1).trans rfl
            have hcz24_2 : wc.cell? ⟨gb541, 2, none⟩ = some (.slice A0_2 l0_2.length c0_2) := (blk_cell BK541.out 2).trans rfl
            have hfz24_0 := blk_frozen BK541.out 0
            have hfz24_1 := blk_frozen BK541.out 1
            have hfz24_2 := blk_frozen BK541.out 2
            try go_wp2_with (first | ((with_reducible refine gate_dst (N := 5) rfl ?_); (try (refine gate_guard (by rfl) ?_; dsimp only)); refine box_event ?hg (N := 5) ?hd (cs := #[.slice none 0 0, .slice none 0 0, .slice none 0 0]) (t := 26) ?hr ?_; (case hd => rfl); (case hg => rfl); (case hr => first | (go_simp; done) | (go_simp; rfl)); intro gb545 hg w25 hbox hb; have n0_ := Aside0.mk (blk_below (g := gb541) (o := .cells #[.slice A0_0 l0_0.length c0_0, .slice A0_1 l0_1.length c0_1, .slice A0_2 l0_2.length c0_2] 26 (0, 0)) (by (with_reducible repeat (first | refine blk_drewN ?_ _ | refine blk_drew ?_ | refine blk_alloc ?_ _)); exact BK541.out) hb); have n1_ := Aside0.mk (blk_below (g := gb542) (o := .cells #[.int .i64 a1_0, .int .i64 a1_1, .int .i64 a1_2, .int .i64 a1_3, .int .i64 a1_4] 47 (0, 0)) (by (with_reducible repeat (first | refine blk_drewN ?_ _ | refine blk_drew ?_ | refine blk_alloc ?_ _)); exact BK542.out) hb); have n2_ := Aside0.mk (below_step (by repeat (first | (with_reducible first | exact HB.out | apply below_alloc | apply pw_below_drewN | apply below_drew1 | refine below_set ?_ GE541.out | refine below_set ?_ GE542.out) | exact HB.out)) hb); have n3_ := Aside0.mk (hbox); have n4_ := Aside0.mk ((by rw [hg]; exact (below_size (by repeat (first | (with_reducible first | exact HB.out | apply below_alloc | apply pw_below_drewN | apply below_drew1 | refine below_set ?_ GE541.out | refine below_set ?_ GE542.out) | exact HB.out))) : w.heap.size ≤ gb545)); have n5_ := Aside0.mk ((by rw [hg]; exact (below_size (by repeat (first | (with_reducible first | exact HB.out | apply below_alloc | apply pw_below_drewN | apply below_drew1 | refine below_set ?_ GE541.out | refine below_set ?_ GE542.out) | exact HB.out))) : w.heap.size ≤ gb545)); have n6_ := Aside0.mk ((by rw [hg]; exact Nat.ne_of_lt (blk_lt (g := gb541) (o := .cells #[.slice A0_0 l0_0.length c0_0, .slice A0_1 l0_1.length c0_1, .slice A0_2 l0_2.length c0_2] 26 (0, 0)) (by (with_reducible repeat (first | refine blk_drewN ?_ _ | refine blk_drew ?_ | refine blk_alloc ?_ _)); exact BK541.out)) : gb541 ≠ gb545)); have n7_ := Aside0.mk ((by rw [hg]; exact Nat.ne_of_gt (blk_lt (g := gb541) (o := .cells #[.slice A0_0 l0_0.length c0_0, .slice A0_1 l0_1.length c0_1, .slice A0_2 l0_2.length c0_2] 26 (0, 0)) (by (with_reducible repeat (first | refine blk_drewN ?_ _ | refine blk_drew ?_ | refine blk_alloc ?_ _)); exact BK541.out)) : gb545 ≠ gb541)); have n8_ := Aside0.mk ((by rw [hg]; exact Nat.ne_of_lt (blk_lt (g := gb542) (o := .cells #[.int .i64 a1_0, .int .i64 a1_1, .int .i64 a1_2, .int .i64 a1_3, .int .i64 a1_4] 47 (0, 0)) (by (with_reducible repeat (first | refine blk_drewN ?_ _ | refine blk_drew ?_ | refine blk_alloc ?_ _)); exact BK542.out)) : gb542 ≠ gb545)); have n9_ := Aside0.mk ((by rw [hg]; exact Nat.ne_of_gt (blk_lt (g := gb542) (o := .cells #[.int .i64 a1_0, .int .i64 a1_1, .int .i64 a1_2, .int .i64 a1_3, .int .i64 a1_4] 47 (0, 0)) (by (with_reducible repeat (first | refine blk_drewN ?_ _ | refine blk_drew ?_ | refine blk_alloc ?_ _)); exact BK542.out)) : gb545 ≠ gb542)); clear BK541; clear BK542; clear HB; have BK541 := n0_; have BK542 := n1_; have HB := n2_; have BK545 := n3_; have GW545 := n4_; have GE545 := n5_; have NB541_545 := n6_; have NB545_541 := n7_; have NB542_545 := n8_; have NB545_542 := n9_; clear n0_ n1_ n2_ n3_ n4_ n5_ n6_ n7_ n8_ n9_; clear hb hbox hg; have hnb26 := NB545_541.out; have hnc26 := NB541_545.out; have hnb27 := NB545_542.out; have hnc27 := NB542_545.out; have hcz28_0 : w25.cell? ⟨gb545, 0, none⟩ = some (.slice none 0 0) := (blk_cell BK545.out 0).trans rfl; have hcz28_1 : w25.cell? ⟨gb545, 1, none⟩ = some (.slice none 0 0) := (blk_cell BK545.out 1).trans rfl; have hcz28_2 : w25.cell? ⟨gb545, 2, none⟩ = some (.slice none 0 0) := (blk_cell BK545.out 2).trans rfl; have hfz28_0 := blk_frozen BK545.out 0; have hfz28_1 := blk_frozen BK545.out 1; have hfz28_2 := blk_frozen BK545.out 2))
            have n0_ : Aside0 ((((w25.setCell ⟨gb545, 0, none⟩ (.slice A0_0 l0_0.length c0_0)).setCell ⟨gb545, 1, none⟩ (.slice A0_1 l0_1.length c0_1)).setCell ⟨gb545, 2, none⟩ (.slice A0_2 l0_2.length c0_2)).heap[gb541]? = some (.cells #[.slice A0_0 l0_0.length c0_0, .slice A0_1 l0_1.length c0_1, .slice A0_2 l0_2.length c0_2] 26 (0, 0))) := ⟨by (with_reducible repeat (first | refine blk_drewN ?_ _ | refine blk_drew ?_ | refine blk_alloc ?_ _)); refine blk_far ?_ NB541_545.out _; (with_reducible repeat (first | refine blk_drewN ?_ _ | refine blk_drew ?_ | refine blk_alloc ?_ _)); refine blk_far ?_ NB541_545.out _; (with_reducible repeat (first | refine blk_drewN ?_ _ | refine blk_drew ?_ | refine blk_alloc ?_ _)); refine blk_far ?_ NB541_545.out _; (with_reducible repeat (first | refine blk_drewN ?_ _ | refine blk_drew ?_ | refine blk_alloc ?_ _)); exact BK541.out⟩
            have n1_ : Aside0 ((((w25.setCell ⟨gb545, 0, none⟩ (.slice A0_0 l0_0.length c0_0)).setCell ⟨gb545, 1, none⟩ (.slice A0_1 l0_1.length c0_1)).setCell ⟨gb545, 2, none⟩ (.slice A0_2 l0_2.length c0_2)).heap[gb542]? = some (.cells #[.int .i64 a1_0, .int .i64 a1_1, .int .i64 a1_2, .int .i64 a1_3, .int .i64 a1_4] 47 (0, 0))) := ⟨by (with_reducible repeat (first | refine blk_drewN ?_ _ | refine blk_drew ?_ | refine blk_alloc ?_ _)); refine blk_far ?_ NB542_545.out _; (with_reducible repeat (first | refine blk_drewN ?_ _ | refine blk_drew ?_ | refine blk_alloc ?_ _)); refine blk_far ?_ NB542_545.out _; (with_reducible repeat (first | refine blk_drewN ?_ _ | refine blk_drew ?_ | refine blk_alloc ?_ _)); refine blk_far ?_ NB542_545.out _; (with_reducible repeat (first | refine blk_drewN ?_ _ | refine blk_drew ?_ | refine blk_alloc ?_ _)); exact BK542.out⟩
            have n2_ : Aside0 ((((w25.setCell ⟨gb545, 0, none⟩ (.slice A0_0 l0_0.length c0_0)).setCell ⟨gb545, 1, none⟩ (.slice A0_1 l0_1.length c0_1)).setCell ⟨gb545, 2, none⟩ (.slice A0_2 l0_2.length c0_2)).heap[gb545]? = some (.cells #[.slice A0_0 l0_0.length c0_0, .slice A0_1 l0_1.length c0_1, .slice A0_2 l0_2.length c0_2] 26 (0, 0))) := ⟨by (with_reducible repeat (first | refine blk_drewN ?_ _ | refine blk_drew ?_ | refine blk_alloc ?_ _)); refine blk_put (cs := #[.slice A0_0 l0_0.length c0_0, .slice A0_1 l0_1.length c0_1, .slice none 0 0]) ?_ 2 _ rfl; (with_reducible repeat (first | refine blk_drewN ?_ _ | refine blk_drew ?_ | refine blk_alloc ?_ _)); refine blk_put (cs := #[.slice A0_0 l0_0.length c0_0, .slice none 0 0, .slice none 0 0]) ?_ 1 _ rfl; (with_reducible repeat (first | refine blk_drewN ?_ _ | refine blk_drew ?_ | refine blk_alloc ?_ _)); refine blk_put (cs := #[.slice none 0 0, .slice none 0 0, .slice none 0 0]) ?_ 0 _ rfl; (with_reducible repeat (first | refine blk_drewN ?_ _ | refine blk_drew ?_ | refine blk_alloc ?_ _)); exact BK545.out⟩
            have n3_ : Aside0 (Below w.heap.size w (((w25.setCell ⟨gb545, 0, none⟩ (.slice A0_0 l0_0.length c0_0)).setCell ⟨gb545, 1, none⟩ (.slice A0_1 l0_1.length c0_1)).setCell ⟨gb545, 2, none⟩ (.slice A0_2 l0_2.length c0_2))) := ⟨by repeat (first | (with_reducible first | exact HB.out | apply below_alloc | apply pw_below_drewN | apply below_drew1 | refine below_set ?_ GE541.out | refine below_set ?_ GE542.out | refine below_set ?_ GE545.out) | exact HB.out)⟩
            (try clear BK541)
            (try clear BK542)
            (try clear BK545)
            (try clear HB)
            generalize (((w25.setCell ⟨gb545, 0, none⟩ (.slice A0_0 l0_0.length c0_0)).setCell ⟨gb545, 1, none⟩ (.slice A0_1 l0_1.length c0_1)).setCell ⟨gb545, 2, none⟩ (.slice A0_2 l0_2.length c0_2)) = w29 at n0_ n1_ n2_ n3_ ⊢
            have BK541 := n0_
            have BK542 := n1_
            have BK545 := n2_
            have HB := n3_
            clear n0_ n1_ n2_ n3_
            have n0_ := Aside0.mk (blk_drew BK541.out)
            have n1_ := Aside0.mk (blk_drew BK542.out)
            have n2_ := Aside0.mk (blk_drew BK545.out)
            have n3_ := Aside0.mk (below_drew1 HB.out)
            clear BK541
            clear BK542
            clear BK545
            clear HB
            have BK541 := n0_
            have BK542 := n1_
            have BK545 := n2_
            have HB := n3_
            clear n0_ n1_ n2_ n3_
            refine start_ (n := 9) (S := fun w' => w'.cell? ⟨gb541, 0, none⟩ = some (.slice A0_0 l0_0.length c0_0) ∧ w'.cell? ⟨gb541, 1, none⟩ = some (.slice A0_1 l0_1.length c0_1) ∧ w'.cell? ⟨gb541, 2, none⟩ = some (.slice A0_2 l0_2.length c0_2) ∧ w'.cell? ⟨gb542, 0, none⟩ = some (.int .i64 a1_0) ∧ w'.cell? ⟨gb542, 1, none⟩ = some (.int .i64 a1_1) ∧ w'.cell? ⟨gb542, 2, none⟩ = some (.int .i64 a1_2) ∧ w'.cell? ⟨gb542, 3, none⟩ = some (.int .i64 a1_3) ∧ w'.cell? ⟨gb542, 4, none⟩ = some (.int .i64 a1_4)) (ds := []) #[false, false, false, false, false, false, false, false, false] (by kernel_rfl) rfl rfl ⟨(blk_cell BK541.out 0).trans rfl, (blk_cell BK541.out 1).trans rfl, (blk_cell BK541.out 2).trans rfl, (blk_cell BK542.out 0).trans rfl, (blk_cell BK542.out 1).trans rfl, (blk_cell BK542.out 2).trans rfl, (blk_cell BK542.out 3).trans rfl, (blk_cell BK542.out 4).trans rfl⟩ (fun hHeld => ?_); refine with_tabW wishbooklaw10_LackMore.tab4 wishbooklaw10_LackMore.bits4 (fun HT_ HW_ => ?_)
            generalize w29.drew = w30 at BK541 BK542 BK545 HB hHeld ⊢
            refine pure_ (i := 1) (N := some 22) (v := ?_) (a' := ?_) #[false, true, false, false, false, false, false, false, false] rfl rfl (any_of HT_.out (by kernel_rfl)) (fun _ _ _ h => h) (Or.inl ⟨by rfl, ?_⟩) ?_ ?_
            rotate_left
            · intro w'
              go_simp
              with_reducible rfl
            rotate_left
            · simp only [Act.put, List.setIfInBounds_toArray, List.set_cons_zero, List.set_cons_succ, i64_w, i32_w]
              rfl
            refine take_ (i := 2) (N := some 23) (v := ?_) (a' := ?_) #[false, true, true, false, false, false, false, false, false] rfl rfl (take_ofW HT_.out HW_.out (by kernel_rfl)) (fun _ _ _ h => h) (Or.inl ⟨by rfl, ?_⟩) hHeld ?_ ?_
            rotate_left
            · rintro w' ⟨s0, s1, s2, s3, s4, s5, s6, s7⟩
              go_simp
              with_reducible rfl
            rotate_left
            · simp only [Act.put, List.setIfInBounds_toArray, List.set_cons_zero, List.set_cons_succ, i64_w, i32_w]
              rfl
            refine take_ (i := 4) (N := some 25) (v := ?_) (a' := ?_) #[false, true, true, false, true, false, false, false, false] rfl rfl (take_ofW HT_.out HW_.out (by kernel_rfl)) (fun _ _ _ h => h) (Or.inl ⟨by rfl, ?_⟩) hHeld ?_ ?_
            rotate_left
            · rintro w' ⟨s0, s1, s2, s3, s4, s5, s6, s7⟩
              go_simp
              with_reducible rfl
            rotate_left
            · simp only [Act.put, List.setIfInBounds_toArray, List.set_cons_zero, List.set_cons_succ, i64_w, i32_w]
              rfl
            refine join_ (σ := Value × Value × Value) 3 #[true, true, true, true, true, true, false, false, false] (fun s_ => [(21, s_.1), (24, s_.2.1), (26, s_.2.2)]) (fun s_ w' => (w'.cell? ⟨gb541, 0, none⟩ = some (.slice A0_0 l0_0.length c0_0) ∧ w'.cell? ⟨gb541, 1, none⟩ = some (.slice A0_1 l0_1.length c0_1) ∧ w'.cell? ⟨gb541, 2, none⟩ = some (.slice A0_2 l0_2.length c0_2) ∧ w'.cell? ⟨gb542, 0, none⟩ = some (.int .i64 a1_0) ∧ w'.cell? ⟨gb542, 1, none⟩ = some (.int .i64 a1_1) ∧ w'.cell? ⟨gb542, 2, none⟩ = some (.int .i64 a1_2) ∧ w'.cell? ⟨gb542, 3, none⟩ = some (.int .i64 a1_3) ∧ w'.cell? ⟨gb542, 4, none⟩ = some (.int .i64 a1_4)) ∧ (Kd.R k47 47 w' w.heap.size (fun k_ => some k_ ≠ (s_.2.2 : Value).ownBlock ∧ k_ ≠ gb542) s_.2.1 y549) ∧ (Kd.R k47 47 w' w.heap.size (fun k_ => some k_ ≠ (s_.2.1 : Value).ownBlock ∧ k_ ≠ gb542) s_.2.2 y552) ∧ (w'.heap[gb541]? = some (.cells #[.slice A0_0 l0_0.length c0_0, .slice A0_1 l0_1.length c0_1, .slice A0_2 l0_2.length c0_2] 26 (0, 0))) ∧ (w'.heap[gb542]? = some (.cells #[.int .i64 a1_0, .int .i64 a1_1, .int .i64 a1_2, .int .i64 a1_3, .int .i64 a1_4] 47 (0, 0))) ∧ (w'.heap[gb545]? = some (.cells #[.slice A0_0 l0_0.length c0_0, .slice A0_1 l0_1.length c0_1, .slice A0_2 l0_2.length c0_2] 26 (0, 0))) ∧ (Below w.heap.size w w')) ?_ ?_
            rotate_left
            · intro hCont
              refine two_ (i := 0) (j := 5) (Ni := some 21) (Nj := some 26) #[true, true, true, false, true, false, false, false, false] #[false, true, true, false, true, true, false, false, false] rfl rfl rfl rfl (two_of HT_.out (by kernel_rfl)) (by decide) (by decide) (fun K hK => ?_) (fun K hK => ?_)
              · skip
                refine Kd.R_lit_step k47 _ 47 ?hg (N := 21) ?hd (xs := ([] : List (S47))) (inner := []) (ok := fun _ => True) (okp := fun _ => True) ?hr ?hp (fun _ hk => hk) trivial (Below.refl _ _) (Nat.le_refl _) (by simp) ?_; (case hd => rfl); (case hg => rfl); (case hr => first | (go_simp; done) | (go_simp; rfl)); (case hp => exact (Reps.none _ _))
                intro v547 w31 ho32 hb hg_ hnew_
                clear hg_ hnew_
                (first | rw [← Ny546.out] at ho32 | (simp only [Int.reduceToNat] at ho32; rw [← Ny546.out] at ho32))
                have n0_ := Aside0.mk (Kd.R_lower (Kd.R_newB ho32 (g := gb542) (o := .cells #[.int .i64 a1_0, .int .i64 a1_1, .int .i64 a1_2, .int .i64 a1_3, .int .i64 a1_4] 47 (0, 0)) (by (with_reducible repeat (first | refine blk_drewN ?_ _ | refine blk_drew ?_ | refine blk_alloc ?_ _)); exact BK542.out)) (below_size (by repeat (first | (with_reducible first | exact HB.out | apply below_alloc | apply pw_below_drewN | apply below_drew1 | refine below_set ?_ GE541.out | refine below_set ?_ GE542.out | refine below_set ?_ GE545.out) | exact HB.out))))
                have n1_ := Aside0.mk (blk_below (g := gb541) (o := .cells #[.slice A0_0 l0_0.length c0_0, .slice A0_1 l0_1.length c0_1, .slice A0_2 l0_2.length c0_2] 26 (0, 0)) (by (with_reducible repeat (first | refine blk_drewN ?_ _ | refine blk_drew ?_ | refine blk_alloc ?_ _)); exact BK541.out) hb)
                have n2_ := Aside0.mk (blk_below (g := gb542) (o := .cells #[.int .i64 a1_0, .int .i64 a1_1, .int .i64 a1_2, .int .i64 a1_3, .int .i64 a1_4] 47 (0, 0)) (by (with_reducible repeat (first | refine blk_drewN ?_ _ | refine blk_drew ?_ | refine blk_alloc ?_ _)); exact BK542.out) hb)
                have n3_ := Aside0.mk (blk_below (g := gb545) (o := .cells #[.slice A0_0 l0_0.length c0_0, .slice A0_1 l0_1.length c0_1, .slice A0_2 l0_2.length c0_2] 26 (0, 0)) (by (with_reducible repeat (first | refine blk_drewN ?_ _ | refine blk_drew ?_ | refine blk_alloc ?_ _)); exact BK545.out) hb)
                have n4_ := Aside0.mk (below_step (by repeat (first | (with_reducible first | exact HB.out | apply below_alloc | apply pw_below_drewN | apply below_drew1 | refine below_set ?_ GE541.out | refine below_set ?_ GE542.out | refine below_set ?_ GE545.out) | exact HB.out)) hb)
                clear BK541
                clear BK542
                clear BK545
                clear HB
                have HO548 := n0_
                have BK541 := n1_
                have BK542 := n2_
                have BK545 := n3_
                have HB := n4_
                clear n0_ n1_ n2_ n3_ n4_
                clear hb ho32
                refine hK.out _ _ ⟨(blk_cell BK541.out 0).trans rfl, (blk_cell BK541.out 1).trans rfl, (blk_cell BK541.out 2).trans rfl, (blk_cell BK542.out 0).trans rfl, (blk_cell BK542.out 1).trans rfl, (blk_cell BK542.out 2).trans rfl, (blk_cell BK542.out 3).trans rfl, (blk_cell BK542.out 4).trans rfl⟩ (fun hHeld => ?_)
                clear hK K
                refine norm_ (a' := ?_) ?_ ?_
                rotate_left
                · show Act.put _ (some 21) _ = _
                  simp only [Act.put, List.setIfInBounds_toArray, List.set_cons_zero, List.set_cons_succ, i64_w, i32_w]
                  rfl
                refine two_ (i := 3) (j := 5) (Ni := some 24) (Nj := some 26) #[true, true, true, true, true, false, false, false, false] #[true, true, true, false, true, true, false, false, false] rfl rfl rfl rfl (two_of HT_.out (by kernel_rfl)) (by decide) (by decide) (fun K hK => ?_) (fun K hK => ?_)
                · skip
                  refine Kd.R_append_rows_step k47 (w0 := w) w.heap.size (by rfl) (.tmp 21) (.tmp 23) 23 47 (.agg #[(.int .i64 0), (.int .i64 0), (.int .i64 0), (.int .i64 0), (.int .i64 0)]) 40 rfl Tryd.underlying23 info47 rfl (by decide) (by omega) v547 y546 l0_1 _ _ _ (fun k_ => k_ ≠ gb542) (fun _ => False) rfl rfl ?aO ?aR (fun _ _ h => h) (fun _ h => h.elim) ?aF ?aB ?aS ?aL ?_
                  (case aR => repeat (first | exact (Kd.C_below HR0_1.out HB.out) | (with_reducible refine Kd.C_alloc ?_ _) | (with_reducible refine Kd.C_drewN ?_ _) | (with_reducible refine Kd.C_drew ?_)))
                  (case aB => exact (by repeat (first | (with_reducible first | exact HB.out | apply below_alloc | apply pw_below_drewN | apply below_drew1 | refine below_set ?_ GE541.out | refine below_set ?_ GE542.out | refine below_set ?_ GE545.out) | exact HB.out)))
                  (case aF => exact (fun k_ hk => Kd.freshB (g := gb542) (o := .cells #[.int .i64 a1_0, .int .i64 a1_1, .int .i64 a1_2, .int .i64 a1_3, .int .i64 a1_4] 47 (0, 0)) (by (with_reducible repeat (first | refine blk_drewN ?_ _ | refine blk_drew ?_ | refine blk_alloc ?_ _)); exact BK542.out) k_ hk))
                  (case aO => exact (by (with_reducible repeat (first | apply Kd.R_alloc | apply Kd.R_drewN | apply Kd.R_drew)); exact Kd.R_mono HO548.out (fun _ hk => hk.2)))
                  (case aS => exact (below_size (by repeat (first | (with_reducible first | exact HB.out | apply below_alloc | apply pw_below_drewN | apply below_drew1 | refine below_set ?_ GE541.out | refine below_set ?_ GE542.out | refine below_set ?_ GE545.out) | exact HB.out))))
                  (case aL => have := LMc18.out; omega)
                  intro v550 w33 ho hb hg hat
                  rw [← Ny549.out] at ho
                  have n0_ := Aside0.mk (blk_grown (g := gb541) (o := .cells #[.slice A0_0 l0_0.length c0_0, .slice A0_1 l0_1.length c0_1, .slice A0_2 l0_2.length c0_2] 26 (0, 0)) (by (with_reducible repeat (first | refine blk_drewN ?_ _ | refine blk_drew ?_ | refine blk_alloc ?_ _)); exact BK541.out) hg (Kd.R_ne HO548.out BK541.out (by decide)))
                  have n1_ := Aside0.mk (blk_grown (g := gb542) (o := .cells #[.int .i64 a1_0, .int .i64 a1_1, .int .i64 a1_2, .int .i64 a1_3, .int .i64 a1_4] 47 (0, 0)) (by (with_reducible repeat (first | refine blk_drewN ?_ _ | refine blk_drew ?_ | refine blk_alloc ?_ _)); exact BK542.out) hg (Kd.R_away HO548.out (fun _ hk => hk.2)))
                  have n2_ := Aside0.mk (blk_grown (g := gb545) (o := .cells #[.slice A0_0 l0_0.length c0_0, .slice A0_1 l0_1.length c0_1, .slice A0_2 l0_2.length c0_2] 26 (0, 0)) (by (with_reducible repeat (first | refine blk_drewN ?_ _ | refine blk_drew ?_ | refine blk_alloc ?_ _)); exact BK545.out) hg (Kd.R_ne HO548.out BK545.out (by decide)))
                  have n3_ := Aside0.mk (hb)
                  have n4_ := Aside0.mk (ho)
                  clear BK541
                  clear BK542
                  clear BK545
                  clear HB
                  clear HO548
                  have BK541 := n0_
                  have BK542 := n1_
                  have BK545 := n2_
                  have HB := n3_
                  have HO551 := n4_
                  clear n0_ n1_ n2_ n3_ n4_
                  clear ho hb hg hat
                  refine hK.out _ _ ⟨(blk_cell BK541.out 0).trans rfl, (blk_cell BK541.out 1).trans rfl, (blk_cell BK541.out 2).trans rfl, (blk_cell BK542.out 0).trans rfl, (blk_cell BK542.out 1).trans rfl, (blk_cell BK542.out 2).trans rfl, (blk_cell BK542.out 3).trans rfl, (blk_cell BK542.out 4).trans rfl⟩ (fun hHeld => ?_)
                  clear hK K
                  refine norm_ (a' := ?_) ?_ ?_
                  rotate_left
                  · show Act.put _ (some 24) _ = _
                    simp only [Act.put, List.setIfInBounds_toArray, List.set_cons_zero, List.set_cons_succ, i64_w, i32_w]
                    rfl
                  refine one_ (i := 5) (N := some 26) #[true, true, true, true, true, true, false, false, false] rfl rfl (one_of HT_.out (by kernel_rfl)) (by decide) (fun K hK => ?_)
                  refine Kd.R_lit_step k47 _ 47 ?hg (N := 26) ?hd (xs := ([(⟨a1_0, a1_1, a1_2, a1_3, a1_4⟩ : S47)] : List (S47))) (inner := [.int .i64 a1_0, .int .i64 a1_1, .int .i64 a1_2, .int .i64 a1_3, .int .i64 a1_4]) (ok := fun _ => True) (okp := fun _ => True) ?hr ?hp (fun _ hk => hk) trivial (Below.refl _ _) (Nat.le_refl _) (by simp) ?_; (case hd => rfl); (case hg => rfl); (case hr => first | (go_simp; done) | (go_simp; rfl)); (case hp => exact (Reps.c5 (show Kd.M k47 _ _ _ (⟨a1_0, a1_1, a1_2, a1_3, a1_4⟩ : S47) [.int .i64 a1_0, .int .i64 a1_1, .int .i64 a1_2, .int .i64 a1_3, .int .i64 a1_4] from (k47_mkM _ _ _ (⟨a1_0, a1_1, a1_2, a1_3, a1_4⟩ : S47) )) (Reps.none _ _)))
                  intro v553 w34 ho35 hb hg_ hnew_
                  clear hg_ hnew_
                  (first | rw [← Ny552.out] at ho35 | (simp only [Int.reduceToNat] at ho35; rw [← Ny552.out] at ho35))
                  have n0_ := Aside0.mk (Kd.R_elder' (by (with_reducible repeat (first | apply Kd.R_alloc | apply Kd.R_drewN | apply Kd.R_drew)); exact HO551.out) (Kd.R_base ho35) hb)
                  have n1_ := Aside0.mk (Kd.R_lower (Kd.R_newB (Kd.R_new' ho35 (Kd.R_lt (by (with_reducible repeat (first | apply Kd.R_alloc | apply Kd.R_drewN | apply Kd.R_drew)); exact HO551.out))) (g := gb542) (o := .cells #[.int .i64 a1_0, .int .i64 a1_1, .int .i64 a1_2, .int .i64 a1_3, .int .i64 a1_4] 47 (0, 0)) (by (with_reducible repeat (first | refine blk_drewN ?_ _ | refine blk_drew ?_ | refine blk_alloc ?_ _)); exact BK542.out)) (below_size (by repeat (first | (with_reducible first | exact HB.out | apply below_alloc | apply pw_below_drewN | apply below_drew1 | refine below_set ?_ GE541.out | refine below_set ?_ GE542.out | refine below_set ?_ GE545.out) | exact HB.out))))
                  have n2_ := Aside0.mk (blk_below (g := gb541) (o := .cells #[.slice A0_0 l0_0.length c0_0, .slice A0_1 l0_1.length c0_1, .slice A0_2 l0_2.length c0_2] 26 (0, 0)) (by (with_reducible repeat (first | refine blk_drewN ?_ _ | refine blk_drew ?_ | refine blk_alloc ?_ _)); exact BK541.out) hb)
                  have n3_ := Aside0.mk (blk_below (g := gb542) (o := .cells #[.int .i64 a1_0, .int .i64 a1_1, .int .i64 a1_2, .int .i64 a1_3, .int .i64 a1_4] 47 (0, 0)) (by (with_reducible repeat (first | refine blk_drewN ?_ _ | refine blk_drew ?_ | refine blk_alloc ?_ _)); exact BK542.out) hb)
                  have n4_ := Aside0.mk (blk_below (g := gb545) (o := .cells #[.slice A0_0 l0_0.length c0_0, .slice A0_1 l0_1.length c0_1, .slice A0_2 l0_2.length c0_2] 26 (0, 0)) (by (with_reducible repeat (first | refine blk_drewN ?_ _ | refine blk_drew ?_ | refine blk_alloc ?_ _)); exact BK545.out) hb)
                  have n5_ := Aside0.mk (below_step (by repeat (first | (with_reducible first | exact HB.out | apply below_alloc | apply pw_below_drewN | apply below_drew1 | refine below_set ?_ GE541.out | refine below_set ?_ GE542.out | refine below_set ?_ GE545.out) | exact HB.out)) hb)
                  clear HO551
                  clear BK541
                  clear BK542
                  clear BK545
                  clear HB
                  have HO551 := n0_
                  have HO554 := n1_
                  have BK541 := n2_
                  have BK542 := n3_
                  have BK545 := n4_
                  have HB := n5_
                  clear n0_ n1_ n2_ n3_ n4_ n5_
                  clear hb ho35
                  refine hK.out _ _ ⟨(blk_cell BK541.out 0).trans rfl, (blk_cell BK541.out 1).trans rfl, (blk_cell BK541.out 2).trans rfl, (blk_cell BK542.out 0).trans rfl, (blk_cell BK542.out 1).trans rfl, (blk_cell BK542.out 2).trans rfl, (blk_cell BK542.out 3).trans rfl, (blk_cell BK542.out 4).trans rfl⟩ (fun hHeld => ?_)
                  clear hK K
                  refine norm_ (a' := ?_) ?_ ?_
                  rotate_left
                  · show Act.put _ (some 26) _ = _
                    simp only [Act.put, List.setIfInBounds_toArray, List.set_cons_zero, List.set_cons_succ, i64_w, i32_w]
                    rfl
                  exact norm_ (by simp only [putAll, Act.put, List.setIfInBounds_toArray, List.set_cons_zero, List.set_cons_succ]) (hCont (v547, v550, v553) _ ⟨hHeld, (by (with_reducible repeat (first | apply Kd.R_alloc | apply Kd.R_drewN | apply Kd.R_drew)); exact Kd.R_mono HO551.out (fun _ hk => ⟨hk.2, hk.1⟩)), (by (with_reducible repeat (first | apply Kd.R_alloc | apply Kd.R_drewN | apply Kd.R_drew)); exact Kd.R_mono HO554.out (fun _ hk => ⟨hk.1.2, hk.2⟩)), (by (with_reducible repeat (first | refine blk_drewN ?_ _ | refine blk_drew ?_ | refine blk_alloc ?_ _)); exact BK541.out), (by (with_reducible repeat (first | refine blk_drewN ?_ _ | refine blk_drew ?_ | refine blk_alloc ?_ _)); exact BK542.out), (by (with_reducible repeat (first | refine blk_drewN ?_ _ | refine blk_drew ?_ | refine blk_alloc ?_ _)); exact BK545.out), (by repeat (first | (with_reducible first | exact HB.out | apply below_alloc | apply pw_below_drewN | apply below_drew1 | refine below_set ?_ GE541.out | refine below_set ?_ GE542.out | refine below_set ?_ GE545.out) | exact HB.out))⟩)
                · skip
                  refine Kd.R_lit_step k47 _ 47 ?hg (N := 26) ?hd (xs := ([(⟨a1_0, a1_1, a1_2, a1_3, a1_4⟩ : S47)] : List (S47))) (inner := [.int .i64 a1_0, .int .i64 a1_1, .int .i64 a1_2, .int .i64 a1_3, .int .i64 a1_4]) (ok := fun _ => True) (okp := fun _ => True) ?hr ?hp (fun _ hk => hk) trivial (Below.refl _ _) (Nat.le_refl _) (by simp) ?_; (case hd => rfl); (case hg => rfl); (case hr => first | (go_simp; done) | (go_simp; rfl)); (case hp => exact (Reps.c5 (show Kd.M k47 _ _ _ (⟨a1_0, a1_1, a1_2, a1_3, a1_4⟩ : S47) [.int .i64 a1_0, .int .i64 a1_1, .int .i64 a1_2, .int .i64 a1_3, .int .i64 a1_4] from (k47_mkM _ _ _ (⟨a1_0, a1_1, a1_2, a1_3, a1_4⟩ : S47) )) (Reps.none _ _)))
                  intro v553 w33 ho34 hb hg_ hnew_
                  clear hg_ hnew_
                  (first | rw [← Ny552.out] at ho34 | (simp only [Int.reduceToNat] at ho34; rw [← Ny552.out] at ho34))
                  have n0_ := Aside0.mk (Kd.R_elder' (by (with_reducible repeat (first | apply Kd.R_alloc | apply Kd.R_drewN | apply Kd.R_drew)); exact HO548.out) (Kd.R_base ho34) hb)
                  have n1_ := Aside0.mk (Kd.R_lower (Kd.R_newB (Kd.R_new' ho34 (Kd.R_lt (by (with_reducible repeat (first | apply Kd.R_alloc | apply Kd.R_drewN | apply Kd.R_drew)); exact HO548.out))) (g := gb542) (o := .cells #[.int .i64 a1_0, .int .i64 a1_1, .int .i64 a1_2, .int .i64 a1_3, .int .i64 a1_4] 47 (0, 0)) (by (with_reducible repeat (first | refine blk_drewN ?_ _ | refine blk_drew ?_ | refine blk_alloc ?_ _)); exact BK542.out)) (below_size (by repeat (first | (with_reducible first | exact HB.out | apply below_alloc | apply pw_below_drewN | apply below_drew1 | refine below_set ?_ GE541.out | refine below_set ?_ GE542.out | refine below_set ?_ GE545.out) | exact HB.out))))
                  have n2_ := Aside0.mk (blk_below (g := gb541) (o := .cells #[.slice A0_0 l0_0.length c0_0, .slice A0_1 l0_1.length c0_1, .slice A0_2 l0_2.length c0_2] 26 (0, 0)) (by (with_reducible repeat (first | refine blk_drewN ?_ _ | refine blk_drew ?_ | refine blk_alloc ?_ _)); exact BK541.out) hb)
                  have n3_ := Aside0.mk (blk_below (g := gb542) (o := .cells #[.int .i64 a1_0, .int .i64 a1_1, .int .i64 a1_2, .int .i64 a1_3, .int .i64 a1_4] 47 (0, 0)) (by (with_reducible repeat (first | refine blk_drewN ?_ _ | refine blk_drew ?_ | refine blk_alloc ?_ _)); exact BK542.out) hb)
                  have n4_ := Aside0.mk (blk_below (g := gb545) (o := .cells #[.slice A0_0 l0_0.length c0_0, .slice A0_1 l0_1.length c0_1, .slice A0_2 l0_2.length c0_2] 26 (0, 0)) (by (with_reducible repeat (first | refine blk_drewN ?_ _ | refine blk_drew ?_ | refine blk_alloc ?_ _)); exact BK545.out) hb)
                  have n5_ := Aside0.mk (below_step (by repeat (first | (with_reducible first | exact HB.out | apply below_alloc | apply pw_below_drewN | apply below_drew1 | refine below_set ?_ GE541.out | refine below_set ?_ GE542.out | refine below_set ?_ GE545.out) | exact HB.out)) hb)
                  clear HO548
                  clear BK541
                  clear BK542
                  clear BK545
                  clear HB
                  have HO548 := n0_
                  have HO554 := n1_
                  have BK541 := n2_
                  have BK542 := n3_
                  have BK545 := n4_
                  have HB := n5_
                  clear n0_ n1_ n2_ n3_ n4_ n5_
                  clear hb ho34
                  refine hK.out _ _ ⟨(blk_cell BK541.out 0).trans rfl, (blk_cell BK541.out 1).trans rfl, (blk_cell BK541.out 2).trans rfl, (blk_cell BK542.out 0).trans rfl, (blk_cell BK542.out 1).trans rfl, (blk_cell BK542.out 2).trans rfl, (blk_cell BK542.out 3).trans rfl, (blk_cell BK542.out 4).trans rfl⟩ (fun hHeld => ?_)
                  clear hK K
                  refine norm_ (a' := ?_) ?_ ?_
                  rotate_left
                  · show Act.put _ (some 26) _ = _
                    simp only [Act.put, List.setIfInBounds_toArray, List.set_cons_zero, List.set_cons_succ, i64_w, i32_w]
                    rfl
                  refine one_ (i := 3) (N := some 24) #[true, true, true, true, true, true, false, false, false] rfl rfl (one_of HT_.out (by kernel_rfl)) (by decide) (fun K hK => ?_)
                  refine Kd.R_append_rows_step k47 (w0 := w) w.heap.size (by rfl) (.tmp 21) (.tmp 23) 23 47 (.agg #[(.int .i64 0), (.int .i64 0), (.int .i64 0), (.int .i64 0), (.int .i64 0)]) 40 rfl Tryd.underlying23 info47 rfl (by decide) (by omega) v547 y546 l0_1 _ _ _ (fun k_ => some k_ ≠ (v553 : Value).ownBlock ∧ k_ ≠ gb542) (fun _ => False) rfl rfl ?aO ?aR (fun _ _ h => h) (fun _ h => h.elim) ?aF ?aB ?aS ?aL ?_
                  (case aR => repeat (first | exact (Kd.C_below HR0_1.out HB.out) | (with_reducible refine Kd.C_alloc ?_ _) | (with_reducible refine Kd.C_drewN ?_ _) | (with_reducible refine Kd.C_drew ?_)))
                  (case aB => exact (by repeat (first | (with_reducible first | exact HB.out | apply below_alloc | apply pw_below_drewN | apply below_drew1 | refine below_set ?_ GE541.out | refine below_set ?_ GE542.out | refine below_set ?_ GE545.out) | exact HB.out)))
                  (case aF => exact (fun k_ hk => ⟨Kd.fresh' (Kd.R_lt (by (with_reducible repeat (first | apply Kd.R_alloc | apply Kd.R_drewN | apply Kd.R_drew)); exact HO554.out)) k_ hk, Kd.freshB (g := gb542) (o := .cells #[.int .i64 a1_0, .int .i64 a1_1, .int .i64 a1_2, .int .i64 a1_3, .int .i64 a1_4] 47 (0, 0)) (by (with_reducible repeat (first | refine blk_drewN ?_ _ | refine blk_drew ?_ | refine blk_alloc ?_ _)); exact BK542.out) k_ hk⟩))
                  (case aO => exact (by (with_reducible repeat (first | apply Kd.R_alloc | apply Kd.R_drewN | apply Kd.R_drew)); exact Kd.R_mono HO548.out (fun _ hk => ⟨hk.2, hk.1.2⟩)))
                  (case aS => exact (below_size (by repeat (first | (with_reducible first | exact HB.out | apply below_alloc | apply pw_below_drewN | apply below_drew1 | refine below_set ?_ GE541.out | refine below_set ?_ GE542.out | refine below_set ?_ GE545.out) | exact HB.out))))
                  (case aL => have := LMc18.out; omega)
                  intro v550 w35 ho hb hg hat
                  rw [← Ny549.out] at ho
                  have n0_ := Aside0.mk (blk_grown (g := gb541) (o := .cells #[.slice A0_0 l0_0.length c0_0, .slice A0_1 l0_1.length c0_1, .slice A0_2 l0_2.length c0_2] 26 (0, 0)) (by (with_reducible repeat (first | refine blk_drewN ?_ _ | refine blk_drew ?_ | refine blk_alloc ?_ _)); exact BK541.out) hg (Kd.R_ne HO548.out BK541.out (by decide)))
                  have n1_ := Aside0.mk (blk_grown (g := gb542) (o := .cells #[.int .i64 a1_0, .int .i64 a1_1, .int .i64 a1_2, .int .i64 a1_3, .int .i64 a1_4] 47 (0, 0)) (by (with_reducible repeat (first | refine blk_drewN ?_ _ | refine blk_drew ?_ | refine blk_alloc ?_ _)); exact BK542.out) hg (Kd.R_away HO548.out (fun _ hk => hk.1.2)))
                  have n2_ := Aside0.mk (blk_grown (g := gb545) (o := .cells #[.slice A0_0 l0_0.length c0_0, .slice A0_1 l0_1.length c0_1, .slice A0_2 l0_2.length c0_2] 26 (0, 0)) (by (with_reducible repeat (first | refine blk_drewN ?_ _ | refine blk_drew ?_ | refine blk_alloc ?_ _)); exact BK545.out) hg (Kd.R_ne HO548.out BK545.out (by decide)))
                  have n3_ := Aside0.mk (Kd.R_after (ok := (fun k_ => k_ ≠ gb542)) (by (with_reducible repeat (first | apply Kd.R_alloc | apply Kd.R_drewN | apply Kd.R_drew)); exact Kd.R_mono HO554.out (fun _ hk => ⟨hk.2, hk.1.2⟩)) hg hat)
                  have n4_ := Aside0.mk (hb)
                  have n5_ := Aside0.mk (ho)
                  clear BK541
                  clear BK542
                  clear BK545
                  clear HO554
                  clear HB
                  clear HO548
                  have BK541 := n0_
                  have BK542 := n1_
                  have BK545 := n2_
                  have HO554 := n3_
                  have HB := n4_
                  have HO551 := n5_
                  clear n0_ n1_ n2_ n3_ n4_ n5_
                  clear ho hb hg hat
                  refine hK.out _ _ ⟨(blk_cell BK541.out 0).trans rfl, (blk_cell BK541.out 1).trans rfl, (blk_cell BK541.out 2).trans rfl, (blk_cell BK542.out 0).trans rfl, (blk_cell BK542.out 1).trans rfl, (blk_cell BK542.out 2).trans rfl, (blk_cell BK542.out 3).trans rfl, (blk_cell BK542.out 4).trans rfl⟩ (fun hHeld => ?_)
                  clear hK K
                  refine norm_ (a' := ?_) ?_ ?_
                  rotate_left
                  · show Act.put _ (some 24) _ = _
                    simp only [Act.put, List.setIfInBounds_toArray, List.set_cons_zero, List.set_cons_succ, i64_w, i32_w]
                    rfl
                  exact norm_ (by simp only [putAll, Act.put, List.setIfInBounds_toArray, List.set_cons_zero, List.set_cons_succ]) (hCont (v547, v550, v553) _ ⟨hHeld, (by (with_reducible repeat (first | apply Kd.R_alloc | apply Kd.R_drewN | apply Kd.R_drew)); exact HO551.out), (by (with_reducible repeat (first | apply Kd.R_alloc | apply Kd.R_drewN | apply Kd.R_drew)); exact Kd.R_mono HO554.out (fun _ hk => ⟨hk.2, hk.1⟩)), (by (with_reducible repeat (first | refine blk_drewN ?_ _ | refine blk_drew ?_ | refine blk_alloc ?_ _)); exact BK541.out), (by (with_reducible repeat (first | refine blk_drewN ?_ _ | refine blk_drew ?_ | refine blk_alloc ?_ _)); exact BK542.out), (by (with_reducible repeat (first | refine blk_drewN ?_ _ | refine blk_drew ?_ | refine blk_alloc ?_ _)); exact BK545.out), (by repeat (first | (with_reducible first | exact HB.out | apply below_alloc | apply pw_below_drewN | apply below_drew1 | refine below_set ?_ GE541.out | refine below_set ?_ GE542.out | refine below_set ?_ GE545.out) | exact HB.out))⟩)
              · skip
                refine Kd.R_lit_step k47 _ 47 ?hg (N := 26) ?hd (xs := ([(⟨a1_0, a1_1, a1_2, a1_3, a1_4⟩ : S47)] : List (S47))) (inner := [.int .i64 a1_0, .int .i64 a1_1, .int .i64 a1_2, .int .i64 a1_3, .int .i64 a1_4]) (ok := fun _ => True) (okp := fun _ => True) ?hr ?hp (fun _ hk => hk) trivial (Below.refl _ _) (Nat.le_refl _) (by simp) ?_; (case hd => rfl); (case hg => rfl); (case hr => first | (go_simp; done) | (go_simp; rfl)); (case hp => exact (Reps.c5 (show Kd.M k47 _ _ _ (⟨a1_0, a1_1, a1_2, a1_3, a1_4⟩ : S47) [.int .i64 a1_0, .int .i64 a1_1, .int .i64 a1_2, .int .i64 a1_3, .int .i64 a1_4] from (k47_mkM _ _ _ (⟨a1_0, a1_1, a1_2, a1_3, a1_4⟩ : S47) )) (Reps.none _ _)))
                intro v553 w31 ho32 hb hg_ hnew_
                clear hg_ hnew_
                (first | rw [← Ny552.out] at ho32 | (simp only [Int.reduceToNat] at ho32; rw [← Ny552.out] at ho32))
                have n0_ := Aside0.mk (Kd.R_lower (Kd.R_newB ho32 (g := gb542) (o := .cells #[.int .i64 a1_0, .int .i64 a1_1, .int .i64 a1_2, .int .i64 a1_3, .int .i64 a1_4] 47 (0, 0)) (by (with_reducible repeat (first | refine blk_drewN ?_ _ | refine blk_drew ?_ | refine blk_alloc ?_ _)); exact BK542.out)) (below_size (by repeat (first | (with_reducible first | exact HB.out | apply below_alloc | apply pw_below_drewN | apply below_drew1 | refine below_set ?_ GE541.out | refine below_set ?_ GE542.out | refine below_set ?_ GE545.out) | exact HB.out))))
                have n1_ := Aside0.mk (blk_below (g := gb541) (o := .cells #[.slice A0_0 l0_0.length c0_0, .slice A0_1 l0_1.length c0_1, .slice A0_2 l0_2.length c0_2] 26 (0, 0)) (by (with_reducible repeat (first | refine blk_drewN ?_ _ | refine blk_drew ?_ | refine blk_alloc ?_ _)); exact BK541.out) hb)
                have n2_ := Aside0.mk (blk_below (g := gb542) (o := .cells #[.int .i64 a1_0, .int .i64 a1_1, .int .i64 a1_2, .int .i64 a1_3, .int .i64 a1_4] 47 (0, 0)) (by (with_reducible repeat (first | refine blk_drewN ?_ _ | refine blk_drew ?_ | refine blk_alloc ?_ _)); exact BK542.out) hb)
                have n3_ := Aside0.mk (blk_below (g := gb545) (o := .cells #[.slice A0_0 l0_0.length c0_0, .slice A0_1 l0_1.length c0_1, .slice A0_2 l0_2.length c0_2] 26 (0, 0)) (by (with_reducible repeat (first | refine blk_drewN ?_ _ | refine blk_drew ?_ | refine blk_alloc ?_ _)); exact BK545.out) hb)
                have n4_ := Aside0.mk (below_step (by repeat (first | (with_reducible first | exact HB.out | apply below_alloc | apply pw_below_drewN | apply below_drew1 | refine below_set ?_ GE541.out | refine below_set ?_ GE542.out | refine below_set ?_ GE545.out) | exact HB.out)) hb)
                clear BK541
                clear BK542
                clear BK545
                clear HB
                have HO554 := n0_
                have BK541 := n1_
                have BK542 := n2_
                have BK545 := n3_
                have HB := n4_
                clear n0_ n1_ n2_ n3_ n4_
                clear hb ho32
                refine hK.out _ _ ⟨(blk_cell BK541.out 0).trans rfl, (blk_cell BK541.out 1).trans rfl, (blk_cell BK541.out 2).trans rfl, (blk_cell BK542.out 0).trans rfl, (blk_cell BK542.out 1).trans rfl, (blk_cell BK542.out 2).trans rfl, (blk_cell BK542.out 3).trans rfl, (blk_cell BK542.out 4).trans rfl⟩ (fun hHeld => ?_)
                clear hK K
                refine norm_ (a' := ?_) ?_ ?_
                rotate_left
                · show Act.put _ (some 26) _ = _
                  simp only [Act.put, List.setIfInBounds_toArray, List.set_cons_zero, List.set_cons_succ, i64_w, i32_w]
                  rfl
                refine one_ (i := 0) (N := some 21) #[true, true, true, false, true, true, false, false, false] rfl rfl (one_of HT_.out (by kernel_rfl)) (by decide) (fun K hK => ?_)
                refine Kd.R_lit_step k47 _ 47 ?hg (N := 21) ?hd (xs := ([] : List (S47))) (inner := []) (ok := fun _ => True) (okp := fun _ => True) ?hr ?hp (fun _ hk => hk) trivial (Below.refl _ _) (Nat.le_refl _) (by simp) ?_; (case hd => rfl); (case hg => rfl); (case hr => first | (go_simp; done) | (go_simp; rfl)); (case hp => exact (Reps.none _ _))
                intro v547 w33 ho34 hb hg_ hnew_
                clear hg_ hnew_
                (first | rw [← Ny546.out] at ho34 | (simp only [Int.reduceToNat] at ho34; rw [← Ny546.out] at ho34))
                have n0_ := Aside0.mk (Kd.R_elder' (by (with_reducible repeat (first | apply Kd.R_alloc | apply Kd.R_drewN | apply Kd.R_drew)); exact HO554.out) (Kd.R_base ho34) hb)
                have n1_ := Aside0.mk (Kd.R_lower (Kd.R_newB (Kd.R_new' ho34 (Kd.R_lt (by (with_reducible repeat (first | apply Kd.R_alloc | apply Kd.R_drewN | apply Kd.R_drew)); exact HO554.out))) (g := gb542) (o := .cells #[.int .i64 a1_0, .int .i64 a1_1, .int .i64 a1_2, .int .i64 a1_3, .int .i64 a1_4] 47 (0, 0)) (by (with_reducible repeat (first | refine blk_drewN ?_ _ | refine blk_drew ?_ | refine blk_alloc ?_ _)); exact BK542.out)) (below_size (by repeat (first | (with_reducible first | exact HB.out | apply below_alloc | apply pw_below_drewN | apply below_drew1 | refine below_set ?_ GE541.out | refine below_set ?_ GE542.out | refine below_set ?_ GE545.out) | exact HB.out))))
                have n2_ := Aside0.mk (blk_below (g := gb541) (o := .cells #[.slice A0_0 l0_0.length c0_0, .slice A0_1 l0_1.length c0_1, .slice A0_2 l0_2.length c0_2] 26 (0, 0)) (by (with_reducible repeat (first | refine blk_drewN ?_ _ | refine blk_drew ?_ | refine blk_alloc ?_ _)); exact BK541.out) hb)
                have n3_ := Aside0.mk (blk_below (g := gb542) (o := .cells #[.int .i64 a1_0, .int .i64 a1_1, .int .i64 a1_2, .int .i64 a1_3, .int .i64 a1_4] 47 (0, 0)) (by (with_reducible repeat (first | refine blk_drewN ?_ _ | refine blk_drew ?_ | refine blk_alloc ?_ _)); exact BK542.out) hb)
                have n4_ := Aside0.mk (blk_below (g := gb545) (o := .cells #[.slice A0_0 l0_0.length c0_0, .slice A0_1 l0_1.length c0_1, .slice A0_2 l0_2.length c0_2] 26 (0, 0)) (by (with_reducible repeat (first | refine blk_drewN ?_ _ | refine blk_drew ?_ | refine blk_alloc ?_ _)); exact BK545.out) hb)
                have n5_ := Aside0.mk (below_step (by repeat (first | (with_reducible first | exact HB.out | apply below_alloc | apply pw_below_drewN | apply below_drew1 | refine below_set ?_ GE541.out | refine below_set ?_ GE542.out | refine below_set ?_ GE545.out) | exact HB.out)) hb)
                clear HO554
                clear BK541
                clear BK542
                clear BK545
                clear HB
                have HO554 := n0_
                have HO548 := n1_
                have BK541 := n2_
                have BK542 := n3_
                have BK545 := n4_
                have HB := n5_
                clear n0_ n1_ n2_ n3_ n4_ n5_
                clear hb ho34
                refine hK.out _ _ ⟨(blk_cell BK541.out 0).trans rfl, (blk_cell BK541.out 1).trans rfl, (blk_cell BK541.out 2).trans rfl, (blk_cell BK542.out 0).trans rfl, (blk_cell BK542.out 1).trans rfl, (blk_cell BK542.out 2).trans rfl, (blk_cell BK542.out 3).trans rfl, (blk_cell BK542.out 4).trans rfl⟩ (fun hHeld => ?_)
                clear hK K
                refine norm_ (a' := ?_) ?_ ?_
                rotate_left
                · show Act.put _ (some 21) _ = _
                  simp only [Act.put, List.setIfInBounds_toArray, List.set_cons_zero, List.set_cons_succ, i64_w, i32_w]
                  rfl
                refine one_ (i := 3) (N := some 24) #[true, true, true, true, true, true, false, false, false] rfl rfl (one_of HT_.out (by kernel_rfl)) (by decide) (fun K hK => ?_)
                refine Kd.R_append_rows_step k47 (w0 := w) w.heap.size (by rfl) (.tmp 21) (.tmp 23) 23 47 (.agg #[(.int .i64 0), (.int .i64 0), (.int .i64 0), (.int .i64 0), (.int .i64 0)]) 40 rfl Tryd.underlying23 info47 rfl (by decide) (by omega) v547 y546 l0_1 _ _ _ (fun k_ => some k_ ≠ (v553 : Value).ownBlock ∧ k_ ≠ gb542) (fun _ => False) rfl rfl ?aO ?aR (fun _ _ h => h) (fun _ h => h.elim) ?aF ?aB ?aS ?aL ?_
                (case aR => repeat (first | exact (Kd.C_below HR0_1.out HB.out) | (with_reducible refine Kd.C_alloc ?_ _) | (with_reducible refine Kd.C_drewN ?_ _) | (with_reducible refine Kd.C_drew ?_)))
                (case aB => exact (by repeat (first | (with_reducible first | exact HB.out | apply below_alloc | apply pw_below_drewN | apply below_drew1 | refine below_set ?_ GE541.out | refine below_set ?_ GE542.out | refine below_set ?_ GE545.out) | exact HB.out)))
                (case aF => exact (fun k_ hk => ⟨Kd.fresh' (Kd.R_lt (by (with_reducible repeat (first | apply Kd.R_alloc | apply Kd.R_drewN | apply Kd.R_drew)); exact HO554.out)) k_ hk, Kd.freshB (g := gb542) (o := .cells #[.int .i64 a1_0, .int .i64 a1_1, .int .i64 a1_2, .int .i64 a1_3, .int .i64 a1_4] 47 (0, 0)) (by (with_reducible repeat (first | refine blk_drewN ?_ _ | refine blk_drew ?_ | refine blk_alloc ?_ _)); exact BK542.out) k_ hk⟩))
                (case aO => exact (by (with_reducible repeat (first | apply Kd.R_alloc | apply Kd.R_drewN | apply Kd.R_drew)); exact Kd.R_mono HO548.out (fun _ hk => ⟨hk.1.2, hk.2⟩)))
                (case aS => exact (below_size (by repeat (first | (with_reducible first | exact HB.out | apply below_alloc | apply pw_below_drewN | apply below_drew1 | refine below_set ?_ GE541.out | refine below_set ?_ GE542.out | refine below_set ?_ GE545.out) | exact HB.out))))
                (case aL => have := LMc18.out; omega)
                intro v550 w35 ho hb hg hat
                rw [← Ny549.out] at ho
                have n0_ := Aside0.mk (blk_grown (g := gb541) (o := .cells #[.slice A0_0 l0_0.length c0_0, .slice A0_1 l0_1.length c0_1, .slice A0_2 l0_2.length c0_2] 26 (0, 0)) (by (with_reducible repeat (first | refine blk_drewN ?_ _ | refine blk_drew ?_ | refine blk_alloc ?_ _)); exact BK541.out) hg (Kd.R_ne HO548.out BK541.out (by decide)))
                have n1_ := Aside0.mk (blk_grown (g := gb542) (o := .cells #[.int .i64 a1_0, .int .i64 a1_1, .int .i64 a1_2, .int .i64 a1_3, .int .i64 a1_4] 47 (0, 0)) (by (with_reducible repeat (first | refine blk_drewN ?_ _ | refine blk_drew ?_ | refine blk_alloc ?_ _)); exact BK542.out) hg (Kd.R_away HO548.out (fun _ hk => hk.2)))
                have n2_ := Aside0.mk (blk_grown (g := gb545) (o := .cells #[.slice A0_0 l0_0.length c0_0, .slice A0_1 l0_1.length c0_1, .slice A0_2 l0_2.length c0_2] 26 (0, 0)) (by (with_reducible repeat (first | refine blk_drewN ?_ _ | refine blk_drew ?_ | refine blk_alloc ?_ _)); exact BK545.out) hg (Kd.R_ne HO548.out BK545.out (by decide)))
                have n3_ := Aside0.mk (Kd.R_after (ok := (fun k_ => k_ ≠ gb542)) (by (with_reducible repeat (first | apply Kd.R_alloc | apply Kd.R_drewN | apply Kd.R_drew)); exact Kd.R_mono HO554.out (fun _ hk => ⟨hk.1.2, hk.2⟩)) hg hat)
                have n4_ := Aside0.mk (hb)
                have n5_ := Aside0.mk (ho)
                clear BK541
                clear BK542
                clear BK545
                clear HO554
                clear HB
                clear HO548
                have BK541 := n0_
                have BK542 := n1_
                have BK545 := n2_
                have HO554 := n3_
                have HB := n4_
                have HO551 := n5_
                clear n0_ n1_ n2_ n3_ n4_ n5_
                clear ho hb hg hat
                refine hK.out _ _ ⟨(blk_cell BK541.out 0).trans rfl, (blk_cell BK541.out 1).trans rfl, (blk_cell BK541.out 2).trans rfl, (blk_cell BK542.out 0).trans rfl, (blk_cell BK542.out 1).trans rfl, (blk_cell BK542.out 2).trans rfl, (blk_cell BK542.out 3).trans rfl, (blk_cell BK542.out 4).trans rfl⟩ (fun hHeld => ?_)
                clear hK K
                refine norm_ (a' := ?_) ?_ ?_
                rotate_left
                · show Act.put _ (some 24) _ = _
                  simp only [Act.put, List.setIfInBounds_toArray, List.set_cons_zero, List.set_cons_succ, i64_w, i32_w]
                  rfl
                exact norm_ (by simp only [putAll, Act.put, List.setIfInBounds_toArray, List.set_cons_zero, List.set_cons_succ]) (hCont (v547, v550, v553) _ ⟨hHeld, (by (with_reducible repeat (first | apply Kd.R_alloc | apply Kd.R_drewN | apply Kd.R_drew)); exact HO551.out), (by (with_reducible repeat (first | apply Kd.R_alloc | apply Kd.R_drewN | apply Kd.R_drew)); exact Kd.R_mono HO554.out (fun _ hk => ⟨hk.2, hk.1⟩)), (by (with_reducible repeat (first | refine blk_drewN ?_ _ | refine blk_drew ?_ | refine blk_alloc ?_ _)); exact BK541.out), (by (with_reducible repeat (first | refine blk_drewN ?_ _ | refine blk_drew ?_ | refine blk_alloc ?_ _)); exact BK542.out), (by (with_reducible repeat (first | refine blk_drewN ?_ _ | refine blk_drew ?_ | refine blk_alloc ?_ _)); exact BK545.out), (by repeat (first | (with_reducible first | exact HB.out | apply below_alloc | apply pw_below_drewN | apply below_drew1 | refine below_set ?_ GE541.out | refine below_set ?_ GE542.out | refine below_set ?_ GE545.out) | exact HB.out))⟩)
            rintro ⟨v547, v550, v553⟩ w36 ⟨hS_, h0_, h1_, h2_, h3_, h4_, h5_⟩
            have n0_ : Aside0 (Kd.R k47 47 w36 w.heap.size (fun k_ => some k_ ≠ (v553 : Value).ownBlock ∧ k_ ≠ gb542) v550 y549) := ⟨h0_⟩
            have n1_ : Aside0 (Kd.R k47 47 w36 w.heap.size (fun k_ => some k_ ≠ (v550 : Value).ownBlock ∧ k_ ≠ gb542) v553 y552) := ⟨h1_⟩
            have n2_ : Aside0 (w36.heap[gb541]? = some (.cells #[.slice A0_0 l0_0.length c0_0, .slice A0_1 l0_1.length c0_1, .slice A0_2 l0_2.length c0_2] 26 (0, 0))) := ⟨h2_⟩
            have n3_ : Aside0 (w36.heap[gb542]? = some (.cells #[.int .i64 a1_0, .int .i64 a1_1, .int .i64 a1_2, .int .i64 a1_3, .int .i64 a1_4] 47 (0, 0))) := ⟨h3_⟩
            have n4_ : Aside0 (w36.heap[gb545]? = some (.cells #[.slice A0_0 l0_0.length c0_0, .slice A0_1 l0_1.length c0_1, .slice A0_2 l0_2.length c0_2] 26 (0, 0))) := ⟨h4_⟩
            have n5_ : Aside0 (Below w.heap.size w w36) := ⟨h5_⟩
            clear BK541
            clear BK542
            clear BK545
            clear HB
            clear h0_ h1_ h2_ h3_ h4_ h5_
            have HO551 := n0_
            have HO554 := n1_
            have BK541 := n2_
            have BK542 := n3_
            have BK545 := n4_
            have HB := n5_
            clear n0_ n1_ n2_ n3_ n4_ n5_
            have hHeld : w36.cell? ⟨gb541, 0, none⟩ = some (.slice A0_0 l0_0.length c0_0) ∧ w36.cell? ⟨gb541, 1, none⟩ = some (.slice A0_1 l0_1.length c0_1) ∧ w36.cell? ⟨gb541, 2, none⟩ = some (.slice A0_2 l0_2.length c0_2) ∧ w36.cell? ⟨gb542, 0, none⟩ = some (.int .i64 a1_0) ∧ w36.cell? ⟨gb542, 1, none⟩ = some (.int .i64 a1_1) ∧ w36.cell? ⟨gb542, 2, none⟩ = some (.int .i64 a1_2) ∧ w36.cell? ⟨gb542, 3, none⟩ = some (.int .i64 a1_3) ∧ w36.cell? ⟨gb542, 4, none⟩ = some (.int .i64 a1_4) := hS_
            obtain ⟨Ao38, co38, eo38⟩ := Kd.R_slice HO554.out
            (first | subst eo38 | (injection eo38 with f1_ f2_ f3_; have f4_ := f1_.symm; have f5_ := f3_.symm; clear f1_ f2_ f3_; subst f4_; subst f5_))
            refine norm_ (a' := ?_) ?_ ?_
            rotate_left
            · simp only [putAll, Act.put, List.setIfInBounds_toArray, List.set_cons_zero, List.set_cons_succ]
              rfl
            refine one_ (i := 6) (N := some 27) #[true, true, true, true, true, true, true, false, false] rfl rfl (one_of HT_.out (by kernel_rfl)) (by decide) (fun K hK => ?_)
            refine Kd.R_append_rows_step k47 (w0 := w) w.heap.size (by rfl) (.tmp 24) (.tmp 26) 23 47 (.agg #[(.int .i64 0), (.int .i64 0), (.int .i64 0), (.int .i64 0), (.int .i64 0)]) 40 rfl Tryd.underlying23 info47 rfl (by decide) (by omega) v550 y549 y552 _ _ _ (fun k_ => some k_ ≠ (.slice Ao38 y552.length co38 : Value).ownBlock ∧ k_ ≠ gb542) (fun _ => False) rfl rfl ?aO ?aR (fun _ _ h => h) (fun _ h => h.elim) ?aF ?aB ?aS ?aL ?_
            (case aR => repeat (first | exact (Kd.R_reads' HO554.out).2.2 | (with_reducible refine Kd.C_alloc ?_ _) | (with_reducible refine Kd.C_drewN ?_ _) | (with_reducible refine Kd.C_drew ?_)))
            (case aB => exact (by repeat (first | (with_reducible first | exact HB.out | apply below_alloc | apply pw_below_drewN | apply below_drew1 | refine below_set ?_ GE541.out | refine below_set ?_ GE542.out | refine below_set ?_ GE545.out) | exact HB.out)))
            (case aF => exact (fun k_ hk => ⟨Kd.fresh' (Kd.R_lt (by (with_reducible repeat (first | apply Kd.R_alloc | apply Kd.R_drewN | apply Kd.R_drew)); exact HO554.out)) k_ hk, Kd.freshB (g := gb542) (o := .cells #[.int .i64 a1_0, .int .i64 a1_1, .int .i64 a1_2, .int .i64 a1_3, .int .i64 a1_4] 47 (0, 0)) (by (with_reducible repeat (first | refine blk_drewN ?_ _ | refine blk_drew ?_ | refine blk_alloc ?_ _)); exact BK542.out) k_ hk⟩))
            (case aO => exact (by (with_reducible repeat (first | apply Kd.R_alloc | apply Kd.R_drewN | apply Kd.R_drew)); exact HO551.out))
            (case aS => exact (below_size (by repeat (first | (with_reducible first | exact HB.out | apply below_alloc | apply pw_below_drewN | apply below_drew1 | refine below_set ?_ GE541.out | refine below_set ?_ GE542.out | refine below_set ?_ GE545.out) | exact HB.out))))
            (case aL => have := LMc19.out; omega)
            intro v556 w37 ho hb hg hat
            rw [← Ny555.out] at ho
            have n0_ := Aside0.mk (blk_grown (g := gb541) (o := .cells #[.slice A0_0 l0_0.length c0_0, .slice A0_1 l0_1.length c0_1, .slice A0_2 l0_2.length c0_2] 26 (0, 0)) (by (with_reducible repeat (first | refine blk_drewN ?_ _ | refine blk_drew ?_ | refine blk_alloc ?_ _)); exact BK541.out) hg (Kd.R_ne HO551.out BK541.out (by decide)))
            have n1_ := Aside0.mk (blk_grown (g := gb542) (o := .cells #[.int .i64 a1_0, .int .i64 a1_1, .int .i64 a1_2, .int .i64 a1_3, .int .i64 a1_4] 47 (0, 0)) (by (with_reducible repeat (first | refine blk_drewN ?_ _ | refine blk_drew ?_ | refine blk_alloc ?_ _)); exact BK542.out) hg (Kd.R_away HO551.out (fun _ hk => hk.2)))
            have n2_ := Aside0.mk (blk_grown (g := gb545) (o := .cells #[.slice A0_0 l0_0.length c0_0, .slice A0_1 l0_1.length c0_1, .slice A0_2 l0_2.length c0_2] 26 (0, 0)) (by (with_reducible repeat (first | refine blk_drewN ?_ _ | refine blk_drew ?_ | refine blk_alloc ?_ _)); exact BK545.out) hg (Kd.R_ne HO551.out BK545.out (by decide)))
            have n3_ := Aside0.mk (Kd.R_after (ok := (fun k_ => k_ ≠ gb542)) (by (with_reducible repeat (first | apply Kd.R_alloc | apply Kd.R_drewN | apply Kd.R_drew)); exact Kd.R_mono HO554.out (fun _ hk => ⟨hk.2, hk.1⟩)) hg hat)
            have n4_ := Aside0.mk (hb)
            have n5_ := Aside0.mk (ho)
            clear BK541
            clear BK542
            clear BK545
            clear HO554
            clear HB
            clear HO551
            have BK541 := n0_
            have BK542 := n1_
            have BK545 := n2_
            have HO554 := n3_
            have HB := n4_
            have HO557 := n5_
            clear n0_ n1_ n2_ n3_ n4_ n5_
            clear ho hb hg hat
            obtain ⟨Ao39, co39, eo39⟩ := Kd.R_slice HO557.out
            (first | subst eo39 | (injection eo39 with f1_ f2_ f3_; have f4_ := f1_.symm; have f5_ := f3_.symm; clear f1_ f2_ f3_; subst f4_; subst f5_))
            refine hK.out _ _ ⟨(blk_cell BK541.out 0).trans rfl, (blk_cell BK541.out 1).trans rfl, (blk_cell BK541.out 2).trans rfl, (blk_cell BK542.out 0).trans rfl, (blk_cell BK542.out 1).trans rfl, (blk_cell BK542.out 2).trans rfl, (blk_cell BK542.out 3).trans rfl, (blk_cell BK542.out 4).trans rfl⟩ (fun hHeld => ?_)
            clear hK K
            refine norm_ (a' := ?_) ?_ ?_
            rotate_left
            · show Act.put _ (some 27) _ = _
              simp only [Act.put, List.setIfInBounds_toArray, List.set_cons_zero, List.set_cons_succ, i64_w, i32_w]
              rfl
            refine pure_ (i := 7) (N := some 28) (v := ?_) (a' := ?_) #[true, true, true, true, true, true, true, true, false] rfl rfl (any_of HT_.out (by kernel_rfl)) (fun _ _ _ h => h) (Or.inl ⟨by rfl, ?_⟩) ?_ ?_
            rotate_left
            · intro w'
              go_simp
              with_reducible rfl
            rotate_left
            · simp only [Act.put, List.setIfInBounds_toArray, List.set_cons_zero, List.set_cons_succ, i64_w, i32_w]
              rfl
            refine one_ (i := 8) (N := none) #[true, true, true, true, true, true, true, true, true] rfl rfl (one_of HT_.out (by kernel_rfl)) (by decide) (fun K hK => ?_)
            have hs40 : w37.cell? ⟨gb545, 1, none⟩ = some (.slice A0_1 l0_1.length c0_1) := (blk_cell BK545.out 1).trans rfl
            have hfs40 := blk_frozen BK545.out 1
            have hns40_0 := NB541_545.out
            have hns40_1 := NB542_545.out
            have hms40_0 := NB545_541.out
            have hms40_1 := NB545_542.out
            refine skip_ (w1 := ?_) (by rfl) rfl ?_ ?_
            rotate_left
            · go_simp
              rfl
            refine hK.out _ _ ⟨((cell_far (p := ⟨gb545, _, none⟩) NB541_545.out _).trans (hHeld.1)), ((cell_far (p := ⟨gb545, _, none⟩) NB541_545.out _).trans (hHeld.2.1)), ((cell_far (p := ⟨gb545, _, none⟩) NB541_545.out _).trans (hHeld.2.2.1)), ((cell_far (p := ⟨gb545, _, none⟩) NB542_545.out _).trans (hHeld.2.2.2.1)), ((cell_far (p := ⟨gb545, _, none⟩) NB542_545.out _).trans (hHeld.2.2.2.2.1)), ((cell_far (p := ⟨gb545, _, none⟩) NB542_545.out _).trans (hHeld.2.2.2.2.2.1)), ((cell_far (p := ⟨gb545, _, none⟩) NB542_545.out _).trans (hHeld.2.2.2.2.2.2.1)), ((cell_far (p := ⟨gb545, _, none⟩) NB542_545.out _).trans (hHeld.2.2.2.2.2.2.2))⟩ (fun hHeld => ?_)
            clear hK K
            refine done_ (done_of HT_.out (by kernel_rfl)) ?_
            have hcz41_0 : w37.cell? ⟨gb541, 0, none⟩ = some (.slice A0_0 l0_0.length c0_0) := (blk_cell BK541.out 0).trans rfl
            have hcz41_1 : w37.cell? ⟨gb541, 1, none⟩ = some (.slice A0_1 l0_1.length c0_1) := (blk_cell BK541.out 1).trans rfl
            have hcz41_2 : w37.cell? ⟨gb541, 2, none⟩ = some (.slice A0_2 l0_2.length c0_2) := (blk_cell BK541.out 2).trans rfl
            have hfz41_0 := blk_frozen BK541.out 0
            have hfz41_1 := blk_frozen BK541.out 1
            have hfz41_2 := blk_frozen BK541.out 2
            go_upto_region 7 with (first | ((with_reducible refine gate_callee (f := 28) rfl ?_); refine goesL_ (some 31) rfl rfl Tryd.func28 (by kernel_rfl) rfl #[.agg #[.slice A0_0 l0_0.length c0_0, .slice A0_1 l0_1.length c0_1, .slice A0_2 l0_2.length c0_2]] rfl (by (try simp only [List.map_toArray, List.map_cons, List.map_nil]); first | done | rfl | (simp only [List.length_drop, List.length_take]; rfl)) ?_; (with_reducible refine (lack_Shares.calls _ _ l0_0 _ _ l0_1 _ _ l0_2 t558 t561 _ ?side1 ?side2 ?side3 ?side4 ?side5 ?side6 ?sideF A20.out).mono ?_); (case side1 => exact Kd.C_below HR0_0.out (by repeat (first | (with_reducible first | exact HB.out | apply below_alloc | apply pw_below_drewN | apply below_drew1 | refine below_set ?_ GE541.out | refine below_set ?_ GE542.out | refine below_set ?_ GE545.out) | exact HB.out))); (case side2 => exact HC0_0.out); (case side3 => exact Kd.C_below HR0_1.out (by repeat (first | (with_reducible first | exact HB.out | apply below_alloc | apply pw_below_drewN | apply below_drew1 | refine below_set ?_ GE541.out | refine below_set ?_ GE542.out | refine below_set ?_ GE545.out) | exact HB.out))); (case side4 => exact HC0_1.out); (case side5 => exact Kd.C_below HR0_2.out (by repeat (first | (with_reducible first | exact HB.out | apply below_alloc | apply pw_below_drewN | apply below_drew1 | refine below_set ?_ GE541.out | refine below_set ?_ GE542.out | refine below_set ?_ GE545.out) | exact HB.out))); (case side6 => exact HC0_2.out); (case sideF => exact Fates.below HFA.out (by repeat (first | (with_reducible first | exact HB.out | apply below_alloc | apply pw_below_drewN | apply below_drew1 | refine below_set ?_ GE541.out | refine below_set ?_ GE542.out | refine below_set ?_ GE545.out) | exact HB.out))); rintro e w42 ⟨v559, rfl, ho0, hb⟩; refine ⟨_, rfl, ?_⟩; have n0_ := Aside0.mk (Kd.R_below (by (with_reducible repeat (first | apply Kd.R_alloc | apply Kd.R_drewN | apply Kd.R_drew)); exact (Kd.R_mono (Kd.R_far (p := ⟨gb545, 1, none⟩) (Kd.R_types HO554.out BK545.out (by decide)) (fun _ hk => hk.2) (.slice Ao39 y555.length co39)) (fun _ h_ => h_.1))) hb); have n1_ := Aside0.mk (Kd.R_below (by (with_reducible repeat (first | apply Kd.R_alloc | apply Kd.R_drewN | apply Kd.R_drew)); exact (Kd.R_mono (Kd.R_far (p := ⟨gb545, 1, none⟩) (Kd.R_types HO557.out BK545.out (by decide)) (fun _ hk => hk.2) (.slice Ao39 y555.length co39)) (fun _ h_ => h_.1))) hb); have n2_ := Aside0.mk (Kd.V_lower (Kd.V_mono (ok' := fun k_ => some k_ ≠ (.slice Ao38 y552.length co38 : Value).ownBlock ∧ some k_ ≠ (.slice Ao39 y555.length co39 : Value).ownBlock ∧ k_ ≠ gb541 ∧ k_ ≠ gb542 ∧ k_ ≠ gb545) ho0 (fun k_ hk_ => ⟨(Kd.fresh' (Kd.R_lt (by (with_reducible repeat (first | apply Kd.R_alloc | apply Kd.R_drewN | apply Kd.R_drew)); exact (Kd.R_mono (Kd.R_far (p := ⟨gb545, 1, none⟩) (Kd.R_types HO554.out BK545.out (by decide)) (fun _ hk => hk.2) (.slice Ao39 y555.length co39)) (fun _ h_ => h_.1)))) k_ hk_), (Kd.fresh' (Kd.R_lt (by (with_reducible repeat (first | apply Kd.R_alloc | apply Kd.R_drewN | apply Kd.R_drew)); exact (Kd.R_mono (Kd.R_far (p := ⟨gb545, 1, none⟩) (Kd.R_types HO557.out BK545.out (by decide)) (fun _ hk => hk.2) (.slice Ao39 y555.length co39)) (fun _ h_ => h_.1)))) k_ hk_), (Kd.freshB (g := gb541) (o := .cells #[.slice A0_0 l0_0.length c0_0, .slice A0_1 l0_1.length c0_1, .slice A0_2 l0_2.length c0_2] 26 (0, 0)) (by (with_reducible repeat (first | refine blk_drewN ?_ _ | refine blk_drew ?_ | refine blk_alloc ?_ _)); refine blk_far ?_ NB541_545.out _; (with_reducible repeat (first | refine blk_drewN ?_ _ | refine blk_drew ?_ | refine blk_alloc ?_ _)); exact BK541.out) k_ hk_), (Kd.freshB (g := gb542) (o := .cells #[.int .i64 a1_0, .int .i64 a1_1, .int .i64 a1_2, .int .i64 a1_3, .int .i64 a1_4] 47 (0, 0)) (by (with_reducible repeat (first | refine blk_drewN ?_ _ | refine blk_drew ?_ | refine blk_alloc ?_ _)); refine blk_far ?_ NB542_545.out _; (with_reducible repeat (first | refine blk_drewN ?_ _ | refine blk_drew ?_ | refine blk_alloc ?_ _)); exact BK542.out) k_ hk_), (Kd.freshB (g := gb545) (o := .cells #[.slice A0_0 l0_0.length c0_0, .slice Ao39 y555.length co39, .slice A0_2 l0_2.length c0_2] 26 (0, 0)) (by (with_reducible repeat (first | refine blk_drewN ?_ _ | refine blk_drew ?_ | refine blk_alloc ?_ _)); refine blk_put (cs := #[.slice A0_0 l0_0.length c0_0, .slice A0_1 l0_1.length c0_1, .slice A0_2 l0_2.length c0_2]) ?_ 1 _ rfl; (with_reducible repeat (first | refine blk_drewN ?_ _ | refine blk_drew ?_ | refine blk_alloc ?_ _)); exact BK545.out) k_ hk_)⟩)) (below_size (by repeat (first | (with_reducible first | exact HB.out | apply below_alloc | apply pw_below_drewN | apply below_drew1 | refine below_set ?_ GE541.out | refine below_set ?_ GE542.out | refine below_set ?_ GE545.out) | exact HB.out)))); have n3_ := Aside0.mk (blk_below (g := gb541) (o := .cells #[.slice A0_0 l0_0.length c0_0, .slice A0_1 l0_1.length c0_1, .slice A0_2 l0_2.length c0_2] 26 (0, 0)) (by (with_reducible repeat (first | refine blk_drewN ?_ _ | refine blk_drew ?_ | refine blk_alloc ?_ _)); refine blk_far ?_ NB541_545.out _; (with_reducible repeat (first | refine blk_drewN ?_ _ | refine blk_drew ?_ | refine blk_alloc ?_ _)); exact BK541.out) hb); have n4_ := Aside0.mk (blk_below (g := gb542) (o := .cells #[.int .i64 a1_0, .int .i64 a1_1, .int .i64 a1_2, .int .i64 a1_3, .int .i64 a1_4] 47 (0, 0)) (by (with_reducible repeat (first | refine blk_drewN ?_ _ | refine blk_drew ?_ | refine blk_alloc ?_ _)); refine blk_far ?_ NB542_545.out _; (with_reducible repeat (first | refine blk_drewN ?_ _ | refine blk_drew ?_ | refine blk_alloc ?_ _)); exact BK542.out) hb); have n5_ := Aside0.mk (blk_below (g := gb545) (o := .cells #[.slice A0_0 l0_0.length c0_0, .slice Ao39 y555.length co39, .slice A0_2 l0_2.length c0_2] 26 (0, 0)) (by (with_reducible repeat (first | refine blk_drewN ?_ _ | refine blk_drew ?_ | refine blk_alloc ?_ _)); refine blk_put (cs := #[.slice A0_0 l0_0.length c0_0, .slice A0_1 l0_1.length c0_1, .slice A0_2 l0_2.length c0_2]) ?_ 1 _ rfl; (with_reducible repeat (first | refine blk_drewN ?_ _ | refine blk_drew ?_ | refine blk_alloc ?_ _)); exact BK545.out) hb); have n6_ := Aside0.mk (below_step (by repeat (first | (with_reducible first | exact HB.out | apply below_alloc | apply pw_below_drewN | apply below_drew1 | refine below_set ?_ GE541.out | refine below_set ?_ GE542.out | refine below_set ?_ GE545.out) | exact HB.out)) hb); clear HO554; clear HO557; clear BK541; clear BK542; clear BK545; clear HB; have HO554 := n0_; have HO557 := n1_; have HO560 := n2_; have BK541 := n3_; have BK542 := n4_; have BK545 := n5_; have HB := n6_; clear n0_ n1_ n2_ n3_ n4_ n5_ n6_; (try clear hb); (try clear hb2); (try clear hk); (try clear hi); (try clear ho0); have hcz43_0 : w42.cell? ⟨gb545, 0, none⟩ = some (.slice A0_0 l0_0.length c0_0) := (blk_cell BK545.out 0).trans rfl; have hcz43_1 : w42.cell? ⟨gb545, 1, none⟩ = some (.slice Ao39 y555.length co39) := (blk_cell BK545.out 1).trans rfl; have hcz43_2 : w42.cell? ⟨gb545, 2, none⟩ = some (.slice A0_2 l0_2.length c0_2) := (blk_cell BK545.out 2).trans rfl; have hfz43_0 := blk_frozen BK545.out 0; have hfz43_1 := blk_frozen BK545.out 1; have hfz43_2 := blk_frozen BK545.out 2) | ((with_reducible refine gate_callee (f := 28) rfl ?_); refine goesL_ (some 36) rfl rfl Tryd.func28 (by kernel_rfl) rfl #[.agg #[.slice A0_0 l0_0.length c0_0, .slice Ao39 y555.length co39, .slice A0_2 l0_2.length c0_2]] rfl (by (try simp only [List.map_toArray, List.map_cons, List.map_nil]); first | done | rfl | (simp only [List.length_drop, List.length_take]; rfl)) ?_; (with_reducible refine (lack_Shares.calls _ _ l0_0 _ _ y555 _ _ l0_2 t562 t565 _ ?side1 ?side2 ?side3 ?side4 ?side5 ?side6 ?sideF A21.out).mono ?_); (case side1 => repeat (first | exact (Kd.C_below HR0_0.out HB.out) | (with_reducible refine Kd.C_alloc ?_ _) | (with_reducible refine Kd.C_drewN ?_ _) | (with_reducible refine Kd.C_drew ?_))); (case side2 => exact HC0_0.out); (case side3 => repeat (first | exact (Kd.R_reads' HO557.out).2.2 | (with_reducible refine Kd.C_alloc ?_ _) | (with_reducible refine Kd.C_drewN ?_ _) | (with_reducible refine Kd.C_drew ?_))); (case side4 => exact (Kd.R_reads' HO557.out).2.1); (case side5 => repeat (first | exact (Kd.C_below HR0_2.out HB.out) | (with_reducible refine Kd.C_alloc ?_ _) | (with_reducible refine Kd.C_drewN ?_ _) | (with_reducible refine Kd.C_drew ?_))); (case side6 => exact HC0_2.out); (case sideF => exact Fates.below HFA.out (by repeat (first | (with_reducible first | exact HB.out | apply below_alloc | apply pw_below_drewN | apply below_drew1 | refine below_set ?_ GE541.out | refine below_set ?_ GE542.out | refine below_set ?_ GE545.out) | exact HB.out))); rintro e w44 ⟨v563, rfl, ho0, hb⟩; refine ⟨_, rfl, ?_⟩; have n0_ := Aside0.mk (Kd.R_below (by (with_reducible repeat (first | apply Kd.R_alloc | apply Kd.R_drewN | apply Kd.R_drew)); exact HO554.out) hb); have n1_ := Aside0.mk (Kd.R_below (by (with_reducible repeat (first | apply Kd.R_alloc | apply Kd.R_drewN | apply Kd.R_drew)); exact HO557.out) hb); have n2_ := Aside0.mk (Kd.V_below (by (with_reducible repeat (first | apply Kd.V_alloc | apply Kd.V_drewN | apply Kd.V_drew)); exact HO560.out) hb); have n3_ := Aside0.mk (Kd.V_lower (Kd.V_mono (ok' := fun k_ => some k_ ≠ (.slice Ao38 y552.length co38 : Value).ownBlock ∧ some k_ ≠ (.slice Ao39 y555.length co39 : Value).ownBlock ∧ k_ ≠ gb541 ∧ k_ ≠ gb542 ∧ k_ ≠ gb545) ho0 (fun k_ hk_ => ⟨(Kd.fresh' (Kd.R_lt (by (with_reducible repeat (first | apply Kd.R_alloc | apply Kd.R_drewN | apply Kd.R_drew)); exact HO554.out)) k_ hk_), (Kd.fresh' (Kd.R_lt (by (with_reducible repeat (first | apply Kd.R_alloc | apply Kd.R_drewN | apply Kd.R_drew)); exact HO557.out)) k_ hk_), (Kd.freshB (g := gb541) (o := .cells #[.slice A0_0 l0_0.length c0_0, .slice A0_1 l0_1.length c0_1, .slice A0_2 l0_2.length c0_2] 26 (0, 0)) (by (with_reducible repeat (first | refine blk_drewN ?_ _ | refine blk_drew ?_ | refine blk_alloc ?_ _)); exact BK541.out) k_ hk_), (Kd.freshB (g := gb542) (o := .cells #[.int .i64 a1_0, .int .i64 a1_1, .int .i64 a1_2, .int .i64 a1_3, .int .i64 a1_4] 47 (0, 0)) (by (with_reducible repeat (first | refine blk_drewN ?_ _ | refine blk_drew ?_ | refine blk_alloc ?_ _)); exact BK542.out) k_ hk_), (Kd.freshB (g := gb545) (o := .cells #[.slice A0_0 l0_0.length c0_0, .slice Ao39 y555.length co39, .slice A0_2 l0_2.length c0_2] 26 (0, 0)) (by (with_reducible repeat (first | refine blk_drewN ?_ _ | refine blk_drew ?_ | refine blk_alloc ?_ _)); exact BK545.out) k_ hk_)⟩)) (below_size (by repeat (first | (with_reducible first | exact HB.out | apply below_alloc | apply pw_below_drewN | apply below_drew1 | refine below_set ?_ GE541.out | refine below_set ?_ GE542.out | refine below_set ?_ GE545.out) | exact HB.out)))); have n4_ := Aside0.mk (blk_below (g := gb541) (o := .cells #[.slice A0_0 l0_0.length c0_0, .slice A0_1 l0_1.length c0_1, .slice A0_2 l0_2.length c0_2] 26 (0, 0)) (by (with_reducible repeat (first | refine blk_drewN ?_ _ | refine blk_drew ?_ | refine blk_alloc ?_ _)); exact BK541.out) hb); have n5_ := Aside0.mk (blk_below (g := gb542) (o := .cells #[.int .i64 a1_0, .int .i64 a1_1, .int .i64 a1_2, .int .i64 a1_3, .int .i64 a1_4] 47 (0, 0)) (by (with_reducible repeat (first | refine blk_drewN ?_ _ | refine blk_drew ?_ | refine blk_alloc ?_ _)); exact BK542.out) hb); have n6_ := Aside0.mk (blk_below (g := gb545) (o := .cells #[.slice A0_0 l0_0.length c0_0, .slice Ao39 y555.length co39, .slice A0_2 l0_2.length c0_2] 26 (0, 0)) (by (with_reducible repeat (first | refine blk_drewN ?_ _ | refine blk_drew ?_ | refine blk_alloc ?_ _)); exact BK545.out) hb); have n7_ := Aside0.mk (below_step (by repeat (first | (with_reducible first | exact HB.out | apply below_alloc | apply pw_below_drewN | apply below_drew1 | refine below_set ?_ GE541.out | refine below_set ?_ GE542.out | refine below_set ?_ GE545.out) | exact HB.out)) hb); clear HO554; clear HO557; clear HO560; clear BK541; clear BK542; clear BK545; clear HB; have HO554 := n0_; have HO557 := n1_; have HO560 := n2_; have HO564 := n3_; have BK541 := n4_; have BK542 := n5_; have BK545 := n6_; have HB := n7_; clear n0_ n1_ n2_ n3_ n4_ n5_ n6_ n7_; (try clear hb); (try clear hb2); (try clear hk); (try clear hi); (try clear ho0)))
            (try simp only [Act.put, List.setIfInBounds_toArray, List.set_cons_zero, List.set_cons_succ])
            go_cut [48] (fun v48 wc => ∃ (kq : Nat) (x48_21 : Bool), v48 = .bool x48_21 ∧ Aside0 (wishbooklaw10_LackMore.j1 kq t558 t562 t565 x48_21 = some r) ∧ Aside0 (kq ≤ kj2) ∧ Aside0 (Kd.V k49 49 wc w.heap.size (fun k_ => some k_ ≠ ((.slice Ao39 y555.length co39) : Value).ownBlock ∧ k_ ≠ gb541 ∧ k_ ≠ gb542 ∧ k_ ≠ gb545) v559 t558) ∧ Aside0 (Kd.V k49 49 wc w.heap.size (fun k_ => some k_ ≠ ((.slice Ao39 y555.length co39) : Value).ownBlock ∧ k_ ≠ gb541 ∧ k_ ≠ gb542 ∧ k_ ≠ gb545) v563 t562) ∧ Aside0 (Kd.R k47 47 wc w.heap.size (fun k_ => k_ ≠ gb542) (.slice Ao39 y555.length co39) y555) ∧ Aside0 (wc.heap[gb541]? = some (.cells #[(.slice A0_0 l0_0.length c0_0), (.slice A0_1 l0_1.length c0_1), (.slice A0_2 l0_2.length c0_2)] 26 (0, 0))) ∧ Aside0 (wc.heap[gb542]? = some (.cells #[.int .i64 a1_0, .int .i64 a1_1, .int .i64 a1_2, .int .i64 a1_3, .int .i64 a1_4] 47 (0, 0))) ∧ Aside0 (wc.heap[gb545]? = some (.cells #[(.slice A0_0 l0_0.length c0_0), (.slice Ao39 y555.length co39), (.slice A0_2 l0_2.length c0_2)] 26 (0, 0))) ∧ Aside0 (Below w.heap.size w wc))
            case first =>
              have H := HC22.out
              clear HC22
              by_cases c45 : t561 = 0
              · rw [if_pos c45] at H
                have c45b0 : (t561 == 0) = true := beq_iff_eq.mpr c45
                have c45b1 : (t561 != 0) = false := bne_eq_false_iff_eq.mpr c45
                clear c45
                (first | rw [c45b0] | (simp only [i64_w, i32_w]; rw [c45b0]) | skip)
                have H' := Aside0.mk H
                clear H
                obtain ⟨Ao46, co46, eo46⟩ := Kd.V_slice HO560.out
                subst eo46
                have hnb47 := NB541_542.out
                have hnc47 := NB542_541.out
                have hnb48 := NB541_545.out
                have hnc48 := NB545_541.out
                have hcz49_0 : w44.cell? ⟨gb541, 0, none⟩ = some (.slice A0_0 l0_0.length c0_0) := (blk_cell BK541.out 0).trans rfl
                have hcz49_1 : w44.cell? ⟨gb541, 1, none⟩ = some (.slice A0_1 l0_1.length c0_1) := (blk_cell BK541.out 1).trans rfl
                have hcz49_2 : w44.cell? ⟨gb541, 2, none⟩ = some (.slice A0_2 l0_2.length c0_2) := (blk_cell BK541.out 2).trans rfl
                have hfz49_0 := blk_frozen BK541.out 0
                have hfz49_1 := blk_frozen BK541.out 1
                have hfz49_2 := blk_frozen BK541.out 2
                go_wp2
                go_meet
                case rel => exact ⟨_, (((t558.length : Int) != (l0_1.length : Int))), (by first | rfl | (simp; done) | (simp [*]; done)), H', ⟨by have := HJ2.out; first | omega | exact Nat.le_refl _⟩, ⟨by (with_reducible repeat (first | apply Kd.V_alloc | apply Kd.V_drewN | apply Kd.V_drew)); exact Kd.V_mono HO560.out (fun _ hk => ⟨hk.2.1, ⟨hk.2.2.1, ⟨hk.2.2.2.1, hk.2.2.2.2⟩⟩⟩)⟩, ⟨by (with_reducible repeat (first | apply Kd.V_alloc | apply Kd.V_drewN | apply Kd.V_drew)); exact Kd.V_mono HO564.out (fun _ hk => ⟨hk.2.1, ⟨hk.2.2.1, ⟨hk.2.2.2.1, hk.2.2.2.2⟩⟩⟩)⟩, ⟨by (with_reducible repeat (first | apply Kd.R_alloc | apply Kd.R_drewN | apply Kd.R_drew)); exact Kd.R_mono HO557.out (fun _ hk => hk.2)⟩, ⟨by (with_reducible repeat (first | refine blk_drewN ?_ _ | refine blk_drew ?_ | refine blk_alloc ?_ _)); exact BK541.out⟩, ⟨by (with_reducible repeat (first | refine blk_drewN ?_ _ | refine blk_drew ?_ | refine blk_alloc ?_ _)); exact BK542.out⟩, ⟨by (with_reducible repeat (first | refine blk_drewN ?_ _ | refine blk_drew ?_ | refine blk_alloc ?_ _)); exact BK545.out⟩, ⟨by repeat (first | (with_reducible first | exact HB.out | apply below_alloc | apply pw_below_drewN | apply below_drew1 | refine below_set ?_ GE541.out | refine below_set ?_ GE542.out | refine below_set ?_ GE545.out) | exact HB.out)⟩⟩
              · rw [if_neg c45] at H
                have c45b0 : (t561 == 0) = false := beq_eq_false_iff_ne.mpr c45
                have c45b1 : (t561 != 0) = true := bne_iff_ne.mpr c45
                (first | rw [c45b0] | (simp only [i64_w, i32_w]; rw [c45b0]) | skip)
                have H' := Aside0.mk H
                clear H
                go_wp2
                go_meet
                case rel => exact ⟨_, (true), (by first | rfl | (simp; done) | (simp [*]; done)), H', ⟨by have := HJ2.out; first | omega | exact Nat.le_refl _⟩, ⟨by (with_reducible repeat (first | apply Kd.V_alloc | apply Kd.V_drewN | apply Kd.V_drew)); exact Kd.V_mono HO560.out (fun _ hk => ⟨hk.2.1, ⟨hk.2.2.1, ⟨hk.2.2.2.1, hk.2.2.2.2⟩⟩⟩)⟩, ⟨by (with_reducible repeat (first | apply Kd.V_alloc | apply Kd.V_drewN | apply Kd.V_drew)); exact Kd.V_mono HO564.out (fun _ hk => ⟨hk.2.1, ⟨hk.2.2.1, ⟨hk.2.2.2.1, hk.2.2.2.2⟩⟩⟩)⟩, ⟨by (with_reducible repeat (first | apply Kd.R_alloc | apply Kd.R_drewN | apply Kd.R_drew)); exact Kd.R_mono HO557.out (fun _ hk => hk.2)⟩, ⟨by (with_reducible repeat (first | refine blk_drewN ?_ _ | refine blk_drew ?_ | refine blk_alloc ?_ _)); exact BK541.out⟩, ⟨by (with_reducible repeat (first | refine blk_drewN ?_ _ | refine blk_drew ?_ | refine blk_alloc ?_ _)); exact BK542.out⟩, ⟨by (with_reducible repeat (first | refine blk_drewN ?_ _ | refine blk_drew ?_ | refine blk_alloc ?_ _)); exact BK545.out⟩, ⟨by repeat (first | (with_reducible first | exact HB.out | apply below_alloc | apply pw_below_drewN | apply below_drew1 | refine below_set ?_ GE541.out | refine below_set ?_ GE542.out | refine below_set ?_ GE545.out) | exact HB.out)⟩⟩
            case rest =>
              clear HC22
              try clear c1
              try clear c2
              try clear p2
              try clear c3
              try clear c4
              try clear c5
              try clear c7
              try clear c8
              try clear c9
              try clear c12
              try clear c15
              try clear c18
              try clear c19
              try clear c23
              try clear c26
              try clear c27
              try clear c28
              try clear c30
              try clear c45
              try clear c45b0
              try clear c45b1
              try clear c47
              try clear c48
              try clear hcz11_0
              try clear hcz11_1
              try clear hcz11_2
              try clear hcz13_0
              try clear hcz13_1
              try clear hcz13_2
              try clear hcz24_0
              try clear hcz24_1
              try clear hcz24_2
              try clear hcz28_0
              try clear hcz28_1
              try clear hcz28_2
              try clear hcz41_0
              try clear hcz41_1
              try clear hcz41_2
              try clear hcz43_0
              try clear hcz43_1
              try clear hcz43_2
              try clear hcz49_0
              try clear hcz49_1
              try clear hcz49_2
              try clear hcz9_0
              try clear hcz9_1
              try clear hcz9_2
              try clear hfz11_0
              try clear hfz11_1
              try clear hfz11_2
              try clear hfz13_0
              try clear hfz13_1
              try clear hfz13_2
              try clear hfz24_0
              try clear hfz24_1
              try clear hfz24_2
              try clear hfz28_0
              try clear hfz28_1
              try clear hfz28_2
              try clear hfz41_0
              try clear hfz41_1
              try clear hfz41_2
              try clear hfz43_0
              try clear hfz43_1
              try clear hfz43_2
              try clear hfz49_0
              try clear hfz49_1
              try clear hfz49_2
              try clear hfz9_0
              try clear hfz9_1
              try clear hfz9_2
              try clear p2
              obtain ⟨kq, x48_21, rfl, HA, HJ21, HO_6, HO_8, HO_546001, BK541, BK542, BK545, HB⟩ := hcut
              cases kq with
              | zero => exact absurd HA.out (by simp [wishbooklaw10_LackMore.j1])
              | succ kj21 =>
                have H := HA.out
                clear HA
                simp only [wishbooklaw10_LackMore.j1] at H
                by_cases c50 : x48_21 = true
                · subst c50
                  have H1 : (some false) = some r := by rw [if_pos rfl] at H; exact H
                  clear H
                  have H := H1
                  clear H1
                  obtain rfl := Option.some.inj H
                  go_wp2
                  go_ret
                  exact ⟨by first | rfl | (simp [errW_none, errW_some] <;> rfl) | (simp [*, errW_none, errW_some] <;> rfl), by repeat (first | (with_reducible first | exact HB.out | apply below_alloc | apply pw_below_drewN | apply below_drew1 | refine below_set ?_ GE541.out | refine below_set ?_ GE542.out | refine below_set ?_ GE545.out) | exact HB.out)⟩
                · replace c50 := Bool.eq_false_iff.mpr c50
                  subst c50
                  have H1 : (if t565 = 0 then (if (t562.length : Int) = (wrap64 ((t558.length : Int) + 1)) then (if 0 ≤ (t558.length : Int) then (if (t558.length : Int) ≤ (t562.length : Int) then ((wishbookref10_SameShares.f kj21 (t562.take ((t558.length : Int) : Int).toNat) t558).bind fun t571 => (if t571 = true then ((wishbooklaw10_listed.f).bind fun t572 => (some t572)) else (some false))) else (none)) else (none)) else (some false)) else (if t565 = 100 then (if (t562.length : Int) = 0 then ((wishbooklaw10_listed.f).bind fun t573 => (some t573)) else (some false)) else (some false))) = some r := by rw [if_neg (show ¬ (false = true) by decide)] at H; exact H
                  clear H
                  have H := H1
                  clear H1
                  by_cases c51 : t565 = 0
                  · rw [if_pos c51] at H
                    have c51b0 : (t565 == 0) = true := beq_iff_eq.mpr c51
                    have c51b1 : (t565 != 0) = false := bne_eq_false_iff_eq.mpr c51
                    clear c51
                    by_cases c52 : (t562.length : Int) = (wrap64 ((t558.length : Int) + 1))
                    · rw [if_pos c52] at H
                      have c52b0 : ((t562.length : Int) == (wrap64 ((t558.length : Int) + 1))) = true := beq_iff_eq.mpr c52
                      have c52b1 : ((t562.length : Int) != (wrap64 ((t558.length : Int) + 1))) = false := bne_eq_false_iff_eq.mpr c52
                      clear c52
                      by_cases c53 : 0 ≤ (t558.length : Int)
                      · rw [if_pos c53] at H
                        have c53b0 := eq_true c53
                        have c53b1 : decide (0 ≤ (t558.length : Int)) = true := decide_eq_true c53
                        clear c53
                        by_cases c54 : (t558.length : Int) ≤ (t562.length : Int)
                        · rw [if_pos c54] at H
                          have c54b0 := eq_true c54
                          have c54b1 : decide ((t558.length : Int) ≤ (t562.length : Int)) = true := decide_eq_true c54
                          clear c54
                          obtain ⟨y566, hy566⟩ : ∃ y_ : List (S49), y_ = (t562.take ((t558.length : Int) : Int).toNat) := ⟨_, rfl⟩
                          replace H : ((wishbookref10_SameShares.f kj21 y566 t558).bind fun t571 => (if t571 = true then ((wishbooklaw10_listed.f).bind fun t572 => (some t572)) else (some false))) = some r := by first | (rw [hy566]; with_reducible exact H) | (have H2_ := (Option.bind_some _ _).symm.trans H; rw [hy566]; with_reducible exact H2_) | (have H2_ := (Option.bind_some _ _).symm.trans H; with_reducible exact H2_) | with_reducible exact H | (rw [hy566]; exact H) | exact H
                          have Ny566 := Aside0.mk hy566
                          clear hy566
                          replace H := Option.bind_eq_some_iff.mp H
                          obtain ⟨t571, A550, H⟩ := H
                          replace H : (if t571 = true then ((wishbooklaw10_listed.f).bind fun t572 => (some t572)) else (some false)) = some r := H
                          have A55 := Aside0.mk A550
                          clear A550
                          by_cases c56 : t571 = true
                          · subst c56
                            have H1 : ((wishbooklaw10_listed.f).bind fun t572 => (some t572)) = some r := by rw [if_pos rfl] at H; exact H
                            clear H
                            have H := H1
                            clear H1
                            replace H := Option.bind_eq_some_iff.mp H
                            obtain ⟨t572, A570, H⟩ := H
                            replace H : (some t572) = some r := H
                            have A57 := Aside0.mk A570
                            clear A570
                            obtain rfl := Option.some.inj H
                            obtain ⟨Ao58, co58, eo58⟩ := Kd.V_slice HO_8.out
                            subst eo58
                            obtain ⟨Ao59, co59, eo59⟩ := Kd.V_slice HO_6.out
                            subst eo59
                            have q60 : ((t558.length : Int) : Int) ≤ ((t562.length : Int) : Int) := of_decide_eq_true (by first | (with_reducible assumption) | assumption)
                            obtain ⟨i060, hi060, _, hsz60, _⟩ := info_parts info49
                            have hroom60 : t562.length ≤ co58 := (Kd.V_reads' HO_8.out).2.1
                            have hC60 : Kd.F k49 _ _ Ao58 t562.length t562 := (Kd.V_at (base := w.heap.size) HO_8.out).2.2
                            have hcut60 := cut_to (P := Tryd.prog) 42 49 .i64 Tryd.underlying42 hi060 Ao58 t562.length co58 (t558.length : Int) (of_decide_eq_true (by first | (with_reducible assumption) | assumption)) q60 hroom60
                            have hr60 := Kd.F_take (m := ((t558.length : Int) : Int).toNat) hC60 (by omega)
                            have hy60 : y566.length = ((t558.length : Int) : Int).toNat := (by rw [Ny566.out, List.length_take]; omega)
                            rw [← Ny566.out] at hr60
                            rw [← hy60] at hcut60
                            have HO570 := Aside0.mk (show Kd.V k49 49 _ w.heap.size _ (.slice Ao58 y566.length co58) y566 from Kd.V_mk (by omega) hr60)
                            have HC570 := Aside0.mk (show y566.length ≤ co58 from by omega)
                            clear hr60 hC60 hroom60 hi060 hsz60
                            have KY60 := Aside0.mk hy60
                            clear hy60
                            replace q60 := eq_true q60
                            go_wp2_with (first | (go_at_call 37; (with_reducible refine (wishbookref10_SameShares.calls kj21 _ _ y566 _ _ t558 true _ ?side1 ?side2 ?side3 ?side4 A55.out).mono ?_); (case side1 => repeat (first | exact (Kd.V_reads' HO570.out).2.2 | (with_reducible refine Kd.C_alloc ?_ _) | (with_reducible refine Kd.C_drewN ?_ _) | (with_reducible refine Kd.C_drew ?_))); (case side2 => exact (Kd.V_reads' HO570.out).2.1); (case side3 => repeat (first | exact (Kd.V_reads' HO_6.out).2.2 | (with_reducible refine Kd.C_alloc ?_ _) | (with_reducible refine Kd.C_drewN ?_ _) | (with_reducible refine Kd.C_drew ?_))); (case side4 => exact (Kd.V_reads' HO_6.out).2.1); rintro e w' ⟨rfl, ⟨nd, rfl⟩⟩) | (go_at_call 19; (with_reducible refine (wishbooklaw10_listed.calls  t572 _ ?sideF A57.out).mono ?_); (case sideF => exact Fates.below HFA.out (by repeat (first | (with_reducible first | exact HB.out | apply below_alloc | apply pw_below_drewN | apply below_drew1 | refine below_set ?_ GE541.out | refine below_set ?_ GE542.out | refine below_set ?_ GE545.out) | exact HB.out))); rintro e w61 ⟨rfl, hb⟩; have n0_ := Aside0.mk (Kd.V_below (by (with_reducible repeat (first | apply Kd.V_alloc | apply Kd.V_drewN | apply Kd.V_drew)); exact HO_6.out) hb); have n1_ := Aside0.mk (Kd.V_below (by (with_reducible repeat (first | apply Kd.V_alloc | apply Kd.V_drewN | apply Kd.V_drew)); exact HO_8.out) hb); have n2_ := Aside0.mk (Kd.R_below (by (with_reducible repeat (first | apply Kd.R_alloc | apply Kd.R_drewN | apply Kd.R_drew)); exact HO_546001.out) hb); have n3_ := Aside0.mk (Kd.V_below (by (with_reducible repeat (first | apply Kd.V_alloc | apply Kd.V_drewN | apply Kd.V_drew)); exact HO570.out) hb); have n4_ := Aside0.mk (blk_below (g := gb541) (o := .cells #[.slice A0_0 l0_0.length c0_0, .slice A0_1 l0_1.length c0_1, .slice A0_2 l0_2.length c0_2] 26 (0, 0)) (by (with_reducible repeat (first | refine blk_drewN ?_ _ | refine blk_drew ?_ | refine blk_alloc ?_ _)); exact BK541.out) hb); have n5_ := Aside0.mk (blk_below (g := gb542) (o := .cells #[.int .i64 a1_0, .int .i64 a1_1, .int .i64 a1_2, .int .i64 a1_3, .int .i64 a1_4] 47 (0, 0)) (by (with_reducible repeat (first | refine blk_drewN ?_ _ | refine blk_drew ?_ | refine blk_alloc ?_ _)); exact BK542.out) hb); have n6_ := Aside0.mk (blk_below (g := gb545) (o := .cells #[.slice A0_0 l0_0.length c0_0, .slice Ao39 y555.length co39, .slice A0_2 l0_2.length c0_2] 26 (0, 0)) (by (with_reducible repeat (first | refine blk_drewN ?_ _ | refine blk_drew ?_ | refine blk_alloc ?_ _)); exact BK545.out) hb); have n7_ := Aside0.mk (below_step (by repeat (first | (with_reducible first | exact HB.out | apply below_alloc | apply pw_below_drewN | apply below_drew1 | refine below_set ?_ GE541.out | refine below_set ?_ GE542.out | refine below_set ?_ GE545.out) | exact HB.out)) hb); clear HO_6; clear HO_8; clear HO_546001; clear HO570; clear BK541; clear BK542; clear BK545; clear HB; have HO_6 := n0_; have HO_8 := n1_; have HO_546001 := n2_; have HO570 := n3_; have BK541 := n4_; have BK542 := n5_; have BK545 := n6_; have HB := n7_; clear n0_ n1_ n2_ n3_ n4_ n5_ n6_ n7_; (try clear hb); (try clear hb2); (try clear hk); (try clear hi)))
                            go_ret
                            exact ⟨by first | rfl | (simp [errW_none, errW_some] <;> rfl) | (simp [*, errW_none, errW_some] <;> rfl), by repeat (first | (with_reducible first | exact HB.out | apply below_alloc | apply pw_below_drewN | apply below_drew1 | refine below_set ?_ GE541.out | refine below_set ?_ GE542.out | refine below_set ?_ GE545.out) | exact HB.out)⟩
                          · replace c56 := Bool.eq_false_iff.mpr c56
                            subst c56
                            have H1 : (some false) = some r := by rw [if_neg (show ¬ (false = true) by decide)] at H; exact H
                            clear H
                            have H := H1
                            clear H1
                            obtain rfl := Option.some.inj H
                            obtain ⟨Ao62, co62, eo62⟩ := Kd.V_slice HO_8.out
                            subst eo62
                            obtain ⟨Ao63, co63, eo63⟩ := Kd.V_slice HO_6.out
                            subst eo63
                            have q64 : ((t558.length : Int) : Int) ≤ ((t562.length : Int) : Int) := of_decide_eq_true (by first | (with_reducible assumption) | assumption)
                            obtain ⟨i064, hi064, _, hsz64, _⟩ := info_parts info49
                            have hroom64 : t562.length ≤ co62 := (Kd.V_reads' HO_8.out).2.1
                            have hC64 : Kd.F k49 _ _ Ao62 t562.length t562 := (Kd.V_at (base := w.heap.size) HO_8.out).2.2
                            have hcut64 := cut_to (P := Tryd.prog) 42 49 .i64 Tryd.underlying42 hi064 Ao62 t562.length co62 (t558.length : Int) (of_decide_eq_true (by first | (with_reducible assumption) | assumption)) q64 hroom64
                            have hr64 := Kd.F_take (m := ((t558.length : Int) : Int).toNat) hC64 (by omega)
                            have hy64 : y566.length = ((t558.length : Int) : Int).toNat := (by rw [Ny566.out, List.length_take]; omega)
                            rw [← Ny566.out] at hr64
                            rw [← hy64] at hcut64
                            have HO570 := Aside0.mk (show Kd.V k49 49 _ w.heap.size _ (.slice Ao62 y566.length co62) y566 from Kd.V_mk (by omega) hr64)
                            have HC570 := Aside0.mk (show y566.length ≤ co62 from by omega)
                            clear hr64 hC64 hroom64 hi064 hsz64
                            have KY64 := Aside0.mk hy64
                            clear hy64
                            replace q64 := eq_true q64
                            go_wp2_with (first | (go_at_call 37; (with_reducible refine (wishbookref10_SameShares.calls kj21 _ _ y566 _ _ t558 false _ ?side1 ?side2 ?side3 ?side4 A55.out).mono ?_); (case side1 => repeat (first | exact (Kd.V_reads' HO570.out).2.2 | (with_reducible refine Kd.C_alloc ?_ _) | (with_reducible refine Kd.C_drewN ?_ _) | (with_reducible refine Kd.C_drew ?_))); (case side2 => exact (Kd.V_reads' HO570.out).2.1); (case side3 => repeat (first | exact (Kd.V_reads' HO_6.out).2.2 | (with_reducible refine Kd.C_alloc ?_ _) | (with_reducible refine Kd.C_drewN ?_ _) | (with_reducible refine Kd.C_drew ?_))); (case side4 => exact (Kd.V_reads' HO_6.out).2.1); rintro e w' ⟨rfl, ⟨nd, rfl⟩⟩))
                            go_ret
                            exact ⟨by first | rfl | (simp [errW_none, errW_some] <;> rfl) | (simp [*, errW_none, errW_some] <;> rfl), by repeat (first | (with_reducible first | exact HB.out | apply below_alloc | apply pw_below_drewN | apply below_drew1 | refine below_set ?_ GE541.out | refine below_set ?_ GE542.out | refine below_set ?_ GE545.out) | exact HB.out)⟩
                        · rw [if_neg c54] at H
                          exact absurd H (by simp)
                      · rw [if_neg c53] at H
                        exact absurd H (by simp)
                    · rw [if_neg c52] at H
                      have c52b0 : ((t562.length : Int) == (wrap64 ((t558.length : Int) + 1))) = false := beq_eq_false_iff_ne.mpr c52
                      have c52b1 : ((t562.length : Int) != (wrap64 ((t558.length : Int) + 1))) = true := bne_iff_ne.mpr c52
                      obtain rfl := Option.some.inj H
                      obtain ⟨Ao65, co65, eo65⟩ := Kd.V_slice HO_8.out
                      subst eo65
                      obtain ⟨Ao66, co66, eo66⟩ := Kd.V_slice HO_6.out
                      subst eo66
                      go_wp2
                      go_ret
                      exact ⟨by first | rfl | (simp [errW_none, errW_some] <;> rfl) | (simp [*, errW_none, errW_some] <;> rfl), by repeat (first | (with_reducible first | exact HB.out | apply below_alloc | apply pw_below_drewN | apply below_drew1 | refine below_set ?_ GE541.out | refine below_set ?_ GE542.out | refine below_set ?_ GE545.out) | exact HB.out)⟩
                  · rw [if_neg c51] at H
                    have c51b0 : (t565 == 0) = false := beq_eq_false_iff_ne.mpr c51
                    have c51b1 : (t565 != 0) = true := bne_iff_ne.mpr c51
                    by_cases c67 : t565 = 100
                    · rw [if_pos c67] at H
                      have c67b0 : (t565 == 100) = true := beq_iff_eq.mpr c67
                      have c67b1 : (t565 != 100) = false := bne_eq_false_iff_eq.mpr c67
                      clear c67
                      by_cases c68 : (t562.length : Int) = 0
                      · rw [if_pos c68] at H
                        have c68b0 : ((t562.length : Int) == 0) = true := beq_iff_eq.mpr c68
                        have c68b1 : ((t562.length : Int) != 0) = false := bne_eq_false_iff_eq.mpr c68
                        clear c68
                        replace H := Option.bind_eq_some_iff.mp H
                        obtain ⟨t573, A690, H⟩ := H
                        replace H : (some t573) = some r := H
                        have A69 := Aside0.mk A690
                        clear A690
                        obtain rfl := Option.some.inj H
                        obtain ⟨Ao70, co70, eo70⟩ := Kd.V_slice HO_8.out
                        subst eo70
                        go_wp2_with (first | (go_at_call 19; (with_reducible refine (wishbooklaw10_listed.calls  t573 _ ?sideF A69.out).mono ?_); (case sideF => exact Fates.below HFA.out (by repeat (first | (with_reducible first | exact HB.out | apply below_alloc | apply pw_below_drewN | apply below_drew1 | refine below_set ?_ GE541.out | refine below_set ?_ GE542.out | refine below_set ?_ GE545.out) | exact HB.out))); rintro e w71 ⟨rfl, hb⟩; have n0_ := Aside0.mk (Kd.V_below (by (with_reducible repeat (first | apply Kd.V_alloc | apply Kd.V_drewN | apply Kd.V_drew)); exact HO_6.out) hb); have n1_ := Aside0.mk (Kd.V_below (by (with_reducible repeat (first | apply Kd.V_alloc | apply Kd.V_drewN | apply Kd.V_drew)); exact HO_8.out) hb); have n2_ := Aside0.mk (Kd.R_below (by (with_reducible repeat (first | apply Kd.R_alloc | apply Kd.R_drewN | apply Kd.R_drew)); exact HO_546001.out) hb); have n3_ := Aside0.mk (blk_below (g := gb541) (o := .cells #[.slice A0_0 l0_0.length c0_0, .slice A0_1 l0_1.length c0_1, .slice A0_2 l0_2.length c0_2] 26 (0, 0)) (by (with_reducible repeat (first | refine blk_drewN ?_ _ | refine blk_drew ?_ | refine blk_alloc ?_ _)); exact BK541.out) hb); have n4_ := Aside0.mk (blk_below (g := gb542) (o := .cells #[.int .i64 a1_0, .int .i64 a1_1, .int .i64 a1_2, .int .i64 a1_3, .int .i64 a1_4] 47 (0, 0)) (by (with_reducible repeat (first | refine blk_drewN ?_ _ | refine blk_drew ?_ | refine blk_alloc ?_ _)); exact BK542.out) hb); have n5_ := Aside0.mk (blk_below (g := gb545) (o := .cells #[.slice A0_0 l0_0.length c0_0, .slice Ao39 y555.length co39, .slice A0_2 l0_2.length c0_2] 26 (0, 0)) (by (with_reducible repeat (first | refine blk_drewN ?_ _ | refine blk_drew ?_ | refine blk_alloc ?_ _)); exact BK545.out) hb); have n6_ := Aside0.mk (below_step (by repeat (first | (with_reducible first | exact HB.out | apply below_alloc | apply pw_below_drewN | apply below_drew1 | refine below_set ?_ GE541.out | refine below_set ?_ GE542.out | refine below_set ?_ GE545.out) | exact HB.out)) hb); clear HO_6; clear HO_8; clear HO_546001; clear BK541; clear BK542; clear BK545; clear HB; have HO_6 := n0_; have HO_8 := n1_; have HO_546001 := n2_; have BK541 := n3_; have BK542 := n4_; have BK545 := n5_; have HB := n6_; clear n0_ n1_ n2_ n3_ n4_ n5_ n6_; (try clear hb); (try clear hb2); (try clear hk); (try clear hi)))
                        go_ret
                        exact ⟨by first | rfl | (simp [errW_none, errW_some] <;> rfl) | (simp [*, errW_none, errW_some] <;> rfl), by repeat (first | (with_reducible first | exact HB.out | apply below_alloc | apply pw_below_drewN | apply below_drew1 | refine below_set ?_ GE541.out | refine below_set ?_ GE542.out | refine below_set ?_ GE545.out) | exact HB.out)⟩
                      · rw [if_neg c68] at H
                        have c68b0 : ((t562.length : Int) == 0) = false := beq_eq_false_iff_ne.mpr c68
                        have c68b1 : ((t562.length : Int) != 0) = true := bne_iff_ne.mpr c68
                        have c68b2 : ¬ (t562 = []) := fun h_ => c68 (by rw [h_]; rfl)
                        obtain rfl := Option.some.inj H
                        obtain ⟨Ao72, co72, eo72⟩ := Kd.V_slice HO_8.out
                        subst eo72
                        go_wp2
                        go_ret
                        exact ⟨by first | rfl | (simp [errW_none, errW_some] <;> rfl) | (simp [*, errW_none, errW_some] <;> rfl), by repeat (first | (with_reducible first | exact HB.out | apply below_alloc | apply pw_below_drewN | apply below_drew1 | refine below_set ?_ GE541.out | refine below_set ?_ GE542.out | refine below_set ?_ GE545.out) | exact HB.out)⟩
                    · rw [if_neg c67] at H
                      have c67b0 : (t565 == 100) = false := beq_eq_false_iff_ne.mpr c67
                      have c67b1 : (t565 != 100) = true := bne_iff_ne.mpr c67
                      obtain rfl := Option.some.inj H
                      go_wp2
                      go_ret
                      exact ⟨by first | rfl | (simp [errW_none, errW_some] <;> rfl) | (simp [*, errW_none, errW_some] <;> rfl), by repeat (first | (with_reducible first | exact HB.out | apply below_alloc | apply pw_below_drewN | apply below_drew1 | refine below_set ?_ GE541.out | refine below_set ?_ GE542.out | refine below_set ?_ GE545.out) | exact HB.out)⟩
          · rw [if_neg c19] at H
            exact absurd H (by simp)
        · rw [if_neg c18] at H
          exact absurd H (by simp)
end Go.Proofs.YtegpepnmnlockaaDoor.PL
namespace Go.Proofs.YtegpepnmnlockaaDoor.PL
open Go.RowKit Go.Proofs.YtegpepnmnlockaaDoorW.PrintWords Go.Proofs.YtegpepnmnlockaaDoorW.PrintLast Go.Proofs.YtegpepnmnlockaaDoorW.PrintMore
set_option linter.unusedVariables false
set_option linter.unusedSimpArgs false
theorem dueTo_lines (l1 l1' : List S47) (good d : Int) (sh : List S49) : ∀ n : Nat, (∀ i : Nat, i < n → rd_T47 l1 i = rd_T47 l1' i) → dueTo l1 good d sh n = dueTo l1' good d sh n
  | 0, _ => rfl
  | n + 1, h => by rw [dueTo, dueTo, dueTo_lines l1 l1' good d sh n (fun i hi => h i (by omega)), h n (by omega)]
theorem keptF_lines {l1 l1' : List S47} {good : Int} {sh : List S49} {F : Int → Int → Int} (h : ∀ i : Nat, i < sh.length → rd_T47 l1 i = rd_T47 l1' i) : keptF l1 good sh F = keptF l1' good sh F := by
  unfold keptF keptUpto
  congr 1
  funext d
  rw [dueTo_lines l1 l1' good d sh sh.length h]
theorem listedF_lines {l1 l1' : List S47} {good : Int} {sh : List S49} {F : Int → Int → Int} (h : ∀ i : Nat, i < sh.length + 1 → rd_T47 l1 i = rd_T47 l1' i) : ∀ n, listedF l1 good sh F n = listedF l1' good sh F n
  | 0 => rfl
  | n + 1 => by
    have ih := listedF_lines (good := good) (F := F) h n
    rw [listedF, listedF, ih]
    have e : ∀ s : S49, keptF l1 good (sh ++ [s]) F = keptF l1' good (sh ++ [s]) F := fun s => keptF_lines (fun i hi => h i (by simpa using hi))
    simp only [e, keptN]
theorem serveF_lines {l1 l1' : List S47} {F : Int → Int → Int} : ∀ (d k : Nat) (s : List Int × List S49), s.2.length = k → (∀ i : Nat, i < k + d → rd_T47 l1 i = rd_T47 l1' i) → serveF l1 F d k s = serveF l1' F d k s
  | 0, k, s, _, _ => rfl
  | d + 1, k, s, hs, h => by
    have e : shareF l1 F (rd_T47 l1 k) s.1 s.2 = shareF l1' F (rd_T47 l1' k) s.1 s.2 := by
      unfold shareF
      rw [h k (by omega), listedF_lines (l1 := l1) (l1' := l1') (fun i hi => h i (by omega))]
    rw [serveF, serveF, e, h k (by omega)]
    exact serveF_lines d (k + 1) _ (by simp; omega) (fun i hi => h i (by omega))
theorem rd47_app (l1 : List S47) (x : S47) {i : Nat} (h : i < l1.length) : rd_T47 l1 i = rd_T47 (l1 ++ [x]) i := by
  unfold rd_T47
  rw [Int.toNat_natCast, List.getD_eq_getElem?_getD, List.getD_eq_getElem?_getD, List.getElem?_append_left h]
/-- A line more: the same shares ahead of its own. -/
theorem servF_more (l0 : List Int) (l1 : List S47) (l2 : List S57) (x : S47) : ∃ s, (servF l0 (l1 ++ [x]) l2).2 = (servF l0 l1 l2).2 ++ [s] := by
  unfold servF
  rw [List.length_append, List.length_singleton]
  have h := serveF_snoc (l1 ++ [x]) (comTo l2 l2.length) l1.length 0 (left0 l0, [])
  rw [h, ← serveF_lines (l1 := l1) l1.length 0 (left0 l0, []) rfl (fun i hi => rd47_app l1 x (by omega))]
  exact ⟨_, rfl⟩
section
variable (l0 : List Int) (l1 : List S47) (l2 : List S57)
/-- LackMore is true of all lists that a machine holds. -/
theorem LackMore_pure (x : S47) (hf : Few l0 l1 l2) : ∃ k, wishbooklaw10_LackMore.f k l0 l1 l2 x.f0 x.f1 x.f2 x.f3 x.f4 = some true := by
  refine ⟨202, ?_⟩
  unfold wishbooklaw10_LackMore.f
  rw [sound_f l0 l1 l2 hf 202 (by omega), Option.bind_some]
  cases hb : okB l0 l1 l2 with
  | false =>
    rw [if_neg (by decide), wishbooklaw10_LackMore.j0, if_pos rfl]
    rfl
  | true =>
    have f := okB_facts hb
    have hlen := (servF_len l1 l2 f.2.1).2
    rw [if_pos rfl]
    by_cases c : (l1.length : Int) = 10
    · rw [beq_iff_eq.2 c, wishbooklaw10_LackMore.j0, if_pos rfl]
      rfl
    · rw [beq_eq_false_iff_ne.2 c, wishbooklaw10_LackMore.j0, if_neg (by decide), Option.bind_some]
      have hf2 : Few l0 (l1 ++ [x]) l2 := by
        unfold Few at hf ⊢
        rw [List.length_append, List.length_singleton]
        omega
      have s1 : lack_Shares.f l0 l1 l2 = some ((servF l0 l1 l2).2, 0) := by
        unfold lack_Shares.f
        rw [if_pos hf, if_pos hb]
      have s2 : lack_Shares.f l0 (l1 ++ [x]) l2 = if okB l0 (l1 ++ [x]) l2 = true then some ((servF l0 (l1 ++ [x]) l2).2, 0) else some ([], 100) := by
        unfold lack_Shares.f
        rw [if_pos hf2]
      rw [if_pos (by simp; omega), Option.bind_some, Option.bind_some, if_pos (by simp; omega), List.nil_append, s1, Option.bind_some]
      show (lack_Shares.f l0 (l1 ++ [x]) l2).bind _ = _
      rw [s2]
      cases hc : okB l0 (l1 ++ [x]) l2 with
      | false =>
        rw [if_neg (by decide), Option.bind_some, if_pos rfl]
        dsimp only
        rw [bne_eq_false_iff_eq.2 (by omega), wishbooklaw10_LackMore.j1, if_neg (by decide), if_neg (by decide), if_pos rfl]
        rfl
      | true =>
        obtain ⟨s, hs⟩ := servF_more l0 l1 l2 x
        rw [if_pos rfl, Option.bind_some, if_pos rfl]
        dsimp only
        rw [bne_eq_false_iff_eq.2 (by omega), wishbooklaw10_LackMore.j1, if_neg (by decide), if_pos rfl, hs]
        generalize (servF l0 l1 l2).2 = sh at *
        rw [List.length_append, List.length_singleton, wrap_succ (by omega), if_pos rfl, if_pos (by omega), if_pos (by omega), Int.toNat_natCast, List.take_left, Same_f sh (by omega) 200 (by omega), Option.bind_some, if_pos rfl]
        rfl
end
end Go.Proofs.YtegpepnmnlockaaDoor.PL
namespace Go
variable {H : Type} {enc : TypeId × Value → H}
/-- The frame of a row whose contract is told the world's shape and one condition more. -/
theorem returnsInHanded_of_change_and_shaped {a : Assume} {C : Checked} {os : Os} {f : FuncId} {fn : Func} {s : ChangeSpec} {conds : List PathCond} {apart fresh handsOn again : Bool} {X : World → Array Value → Prop}
    (hX : ∀ (w w' : World) (args : Array Value), w.heap = w'.heap → X w args → X w' args)
    (own : ownKnob C.prog.godebug = none) (started : os.Started) (noInit : C.prog.inits.idxOf? f = none) (hfn : C.prog.funcs[f]? = some fn)
    (witness : ∃ (w : World) (tape : Tape) (i : Input), w.os = os ∧ (w.forCall tape i).Shaped C.prog ∧ i.vars = [] ∧ Input.okWide C.prog (w.forCall tape i) .any w.heap.size f i ∧
      ((s.pre enc C.prog fn conds apart (w.forCall tape i).memory i.args ∧ X (w.forCall tape i).memory i.args) ∧ sizedMet enc C.prog fn (OpenSpec.ofChange s) apart (w.forCall tape i).memory i.args) ∧ a.holds C.prog (lone (Frame.enter C.prog f i.args .normal) [] (w.forCall tape i)))
    (contract : ∀ (W : World) (base : Nat) (args : Array Value) (ds gs : List (DataW H)) (before : List MemPlace),
      (∀ (j : Nat) t v, fn.params[j]? = some t → args[j]? = some v → Value.okWide C.prog W .any base t v) →
      DataW.Whole enc C.prog fn.params.toList s.vars apart W args.toList ds gs before →
      (DataW.weightsEach C.prog (fn.params.toList ++ s.plain.varTypes C.prog) (ds ++ gs)).all (· ≤ reachBytes) = true → W.ShapedOpen C.prog → X W args →
      Calls C.prog f args W fun e W' => ∃ v, e = .returned v ∧ s.post enc C.prog fn apart fresh handsOn again W args v W') :
    ReturnsInHanded a C os f .any (fun w args => (s.pre enc C.prog fn conds apart w args ∧ X w args) ∧ sizedMet enc C.prog fn (OpenSpec.ofChange s) apart w args) (s.post enc C.prog fn apart fresh handsOn again) := by
  refine returnsInHanded_of_calls own started noInit witness ?_
  intro w tape i _ hsh _ hok hpre _
  obtain ⟨_, _, _, fn', hfn', _, _, _, _, hval⟩ := hok
  obtain rfl := Option.some.inj (hfn'.symm.trans hfn)
  obtain ⟨⟨⟨ds, gs, before, hw, hc⟩, hx⟩, hz⟩ := hpre
  refine (contract (w.forCall tape i) w.heap.size i.args ds gs before hval (DataW.Whole.of_heap (w' := w.forCall tape i) (by rfl) hw) (hz.weights hw) hsh (hX _ _ _ (by rfl) hx)).mono fun e W' ⟨v, he, hp⟩ => ?_
  subst he
  exact ChangeSpec.post_blind hp
end Go
namespace Go.Proofs.YtegpepnmnlockaaDoor.PL
open Go.RowKit Go.ChangeShapes Go.WideShapes Go.Deep Go.Proofs.YtegpepnmnlockaaDoorW.PrintWords Go.Proofs.YtegpepnmnlockaaDoorW.PrintLast Go.Proofs.YtegpepnmnlockaaDoorW.PrintMore
set_option linter.unusedVariables false
set_option linter.unusedSimpArgs false
section
variable {H : Type} {enc : TypeId × Value → H} {P : Program} {α β : Type}
/-- The data of a type are of a kind. -/
def Rds (enc : TypeId × Value → H) (P : Program) (d : Kd α) (t : TypeId) (ok : α → Prop) : Prop := ∀ (w : World) (n : Nat) (cs : List Value) (x : DataW H × List MemPlace),
  DataW.trod enc P w 0 (fun _ => true) true n t cs = some x → (x.1.weights P t).all (· ≤ reachBytes) = true → ∃ a, d.K w a cs ∧ ok a
theorem Rds.int {t : TypeId} {k : IntKind} (ht : P.underlying t = some (.int k)) : Rds enc P (Kd.int k) t (fun n => (Lit.int k n).wf = true) := fun w n cs x h _ => by
  obtain ⟨m, rfl, _, hw⟩ := DataW.trod_int ht h
  exact ⟨m, rfl, hw⟩
theorem Rds.iso {d : Kd α} {t : TypeId} {ok : α → Prop} (h : Rds enc P d t ok) (f : β → α) (g : α → β) (hfg : ∀ a, f (g a) = a) : Rds enc P (Kd.iso d f) t (fun b => ok (f b)) := fun w n cs x hx hz => by
  obtain ⟨a, hK, ho⟩ := h w n cs x hx hz
  refine ⟨g a, ?_, ?_⟩
  · show d.K w (f (g a)) cs
    rw [hfg]; exact hK
  · show ok (f (g a))
    rw [hfg]; exact ho
theorem all_app {l m : List Nat} (h : (l ++ m).all (· ≤ reachBytes) = true) : l.all (· ≤ reachBytes) = true ∧ m.all (· ≤ reachBytes) = true := by
  rw [List.all_append, Bool.and_eq_true] at h
  exact h
theorem weightsAll_at {e : TypeId} : ∀ {l : List (DataW H)} {j : Nat} {y : DataW H}, (DataW.weightsAll P e l).all (· ≤ reachBytes) = true → l[j]? = some y → (y.weights P e).all (· ≤ reachBytes) = true
  | [], j, y, _, hj => by simp at hj
  | d :: r, 0, y, h, hj => by
    cases hj
    rw [DataW.weightsAll] at h
    exact (all_app h).1
  | d :: r, j + 1, y, h, hj => by
    rw [DataW.weightsAll] at h
    exact weightsAll_at (all_app h).2 (by simpa using hj)
theorem Rds.slice [Inhabited α] {d : Kd α} {t e B : Nat} {ok : α → Prop} (he : Rds enc P d e ok) (ht : P.underlying t = some (.slice e)) (hC : P.cellsOf e = d.sz) (hB : P.bytesOf e = B) :
    Rds enc P (Kd.slice e d) t (fun l => l.length * B ≤ reachBytes ∧ ∀ a ∈ l, ok a) := fun w n cs x h hz => by
  rcases open_slice ht h with ⟨rfl, rfl⟩ | ⟨a, len, cap, m, n', D, Pl, rfl, _, hl, hm, hmm, rfl, hi⟩
  · exact ⟨[], ⟨none, 0, rfl, Nat.le_refl _, Kd.C_nil d w⟩, by simp, by simp⟩
  · have hmc : m = cap := by rw [hmm]; rfl
    subst hmc
    simp only [DataW.weights, ht, List.all_cons, Bool.and_eq_true] at hz
    obtain ⟨hz1, hz2⟩ := hz
    have hlen : len * B ≤ reachBytes := by
      rw [← hB]
      refine Nat.le_trans (Nat.mul_le_mul_right _ ?_) (of_decide_eq_true hz1)
      simp
    have each : ∀ i, i < len → ∃ y : α, (∃ c, c.length = d.sz ∧ d.K w y c ∧ ∀ q u, c[q]? = some u → w.cell? (a.add (i * d.sz + q)) = some u) ∧ ok y := fun i hil => by
      obtain ⟨cs', hc, htr⟩ := hi i (by omega)
      have hw : ((D i).weights P e).all (· ≤ reachBytes) = true := weightsAll_at (j := i) (all_app hz2).1 (by rw [List.getElem?_map, List.getElem?_range hil]; rfl)
      obtain ⟨y, hK, ho⟩ := he w n' cs' (D i, Pl i) htr hw
      rw [hC] at hc
      obtain ⟨_, hcl, hat⟩ := World.cells?_some hc
      refine ⟨y, ⟨cs', hcl, hK, fun q u hu => ?_⟩, ho⟩
      have hq : q < d.sz := by rw [← hcl]; exact (List.getElem?_eq_some_iff.1 hu).1
      rw [← Go.Deep.add_add, hat q hq, hu]
    obtain ⟨V, hV⟩ := choose_lt each
    have hlr : ((List.range len).map V).length = len := by simp
    refine ⟨(List.range len).map V, ⟨some a, m, by rw [hlr], by rw [hlr]; exact hl, by rw [hlr], by rw [hlr]; unfold maxLen at hm; omega, fun _ => ⟨a, rfl, fun j y hy => ?_⟩⟩, by rw [hlr]; exact hlen, fun y hy => ?_⟩
    · have hj : j < len := by rw [← hlr]; exact (List.getElem?_eq_some_iff.1 hy).1
      rw [List.getElem?_map, List.getElem?_range hj] at hy
      cases hy
      exact (hV j hj).1
    · obtain ⟨j, hj, rfl⟩ := List.mem_map.1 hy
      exact (hV j (List.mem_range.1 hj)).2
/-- The same for the fields of a struct, from a place on. -/
def RdF (enc : TypeId × Value → H) (P : Program) (d : Kd α) (l : List Field) (o : Nat) (ok : α → Prop) : Prop := ∀ (w : World) (n : Nat) (cs : List Value) (xs : List (DataW H × List MemPlace)),
  (∀ (i : Nat) (f : Field), l[i]? = some f → DataW.trod enc P w 0 (fun _ => true) true n f.type ((cs.drop f.offset).take (P.cellsOf f.type)) = xs[i]?) → xs.length = l.length →
  (DataW.weightsEach P (l.map (·.type)) (xs.map (·.1))).all (· ≤ reachBytes) = true → cs.length = o + (l.map fun f => P.cellsOf f.type).sum → ∃ a, d.K w a (cs.drop o) ∧ ok a
theorem RdF.one {d : Kd α} {f : Field} {o : Nat} {ok : α → Prop} (h : Rds enc P d f.type ok) (ho : f.offset = o) : RdF enc P d [f] o ok := fun w n cs xs hx hl hz hc => by
  match xs, hl with
  | [y], _ =>
    have h1 := hx 0 f rfl
    rw [ho] at h1
    simp only [List.map_cons, List.map_nil, DataW.weightsEach, List.append_nil] at hz
    simp only [List.map_cons, List.map_nil, List.sum_cons, List.sum_nil] at hc
    obtain ⟨a, hK, hok⟩ := h w n _ y h1 hz
    rw [List.take_of_length_le (by rw [List.length_drop]; omega)] at hK
    exact ⟨a, hK, hok⟩
theorem RdF.cons {d : Kd α} {d2 : Kd β} {f : Field} {l : List Field} {o : Nat} {ok : α → Prop} {ok2 : β → Prop} (h : Rds enc P d f.type ok) (ho : f.offset = o) (h2 : RdF enc P d2 l (o + P.cellsOf f.type) ok2) : RdF enc P (Kd.pair d d2) (f :: l) o (fun x => ok x.1 ∧ ok2 x.2) := fun w n cs xs hx hl hz hc => by
  match xs, hl with
  | y :: ys, hl =>
    have h1 := hx 0 f rfl
    rw [ho] at h1
    simp only [List.map_cons, DataW.weightsEach] at hz
    simp only [List.map_cons, List.sum_cons] at hc
    obtain ⟨a, hK, hok⟩ := h w n _ y h1 (all_app hz).1
    obtain ⟨b, hK2, hok2⟩ := h2 w n cs ys (fun i g hg => by have := hx (i + 1) g (by simpa using hg); simpa using this) (by simpa using hl) (all_app hz).2 (by omega)
    refine ⟨(a, b), ⟨_, _, ?_, hK, hK2⟩, hok, hok2⟩
    rw [← List.drop_drop, List.take_append_drop]
theorem RdF.struct {d : Kd α} {t : TypeId} {fs : Array Field} {ok : α → Prop} (ht : P.underlying t = some (.struct fs)) (h : RdF enc P d fs.toList 0 ok) (hc : P.cellsOf t = (fs.toList.map fun f => P.cellsOf f.type).sum) : Rds enc P d t ok := fun w n cs x hx hz => by
  obtain ⟨xs, n', rfl, rfl, hl, hlen, hf⟩ := DataW.trod_struct ht hx
  simp only [DataW.weights, ht] at hz
  have := h w n' cs xs (fun i f hi => hf i f (by simpa using hi)) (by simpa using hlen) hz (by rw [hl, hc]; omega)
  rwa [List.drop_zero] at this
end
end Go.Proofs.YtegpepnmnlockaaDoor.PL
namespace Go.Proofs.YtegpepnmnlockaaDoor.PL
open Go.RowKit Go.ChangeShapes Go.WideShapes Go.Deep Go.Proofs.YtegpepnmnlockaaDoorW.PrintWords Go.Proofs.YtegpepnmnlockaaDoorW.PrintLast Go.Proofs.YtegpepnmnlockaaDoorW.PrintMore
set_option linter.unusedVariables false
set_option linter.unusedSimpArgs false
section
variable {H : Type} {enc : TypeId × Value → H}
def W64 (n : Int) : Prop := (Lit.int .i64 n).wf = true
instance : Inhabited S47 := ⟨z47⟩
instance : Inhabited S57 := ⟨z57⟩
instance : Inhabited S59 := ⟨z59⟩
def W47 (x : S47) : Prop := W64 x.f0 ∧ W64 x.f1 ∧ W64 x.f2 ∧ W64 x.f3 ∧ W64 x.f4
def W55 (x : S55) : Prop := W64 x.f0 ∧ W64 x.f1
def W57 (x : S57) : Prop := W64 x.f0 ∧ W55 x.f1 ∧ W55 x.f2
theorem rdI : Rds enc Tryd.prog (Kd.int .i64) 3 W64 := Rds.int Tryd.underlying3
theorem rds47 : Rds enc Tryd.prog k47 47 W47 :=
  Rds.iso (RdF.struct Tryd.underlying47 (RdF.cons rdI rfl (RdF.cons rdI (by kernel_rfl) (RdF.cons rdI (by kernel_rfl) (RdF.cons rdI (by kernel_rfl) (RdF.one rdI (by kernel_rfl)))))) (by kernel_rfl)) _ (fun p => ⟨p.1, p.2.1, p.2.2.1, p.2.2.2.1, p.2.2.2.2⟩) (fun _ => rfl)
theorem rds55 : Rds enc Tryd.prog k55 55 W55 :=
  Rds.iso (RdF.struct Tryd.underlying55 (RdF.cons rdI rfl (RdF.one rdI (by kernel_rfl))) (by kernel_rfl)) _ (fun p => ⟨p.1, p.2⟩) (fun _ => rfl)
theorem rds57 : Rds enc Tryd.prog k57 57 W57 :=
  Rds.iso (RdF.struct Tryd.underlying57 (RdF.cons rdI rfl (RdF.cons rds55 (by kernel_rfl) (RdF.one rds55 (by kernel_rfl)))) (by kernel_rfl)) _ (fun p => ⟨p.1, p.2.1, p.2.2⟩) (fun _ => rfl)
theorem rds22 : Rds enc Tryd.prog (Kd.slice 3 (Kd.int .i64)) 22 (fun l => l.length * 8 ≤ reachBytes ∧ ∀ a ∈ l, W64 a) := Rds.slice rdI Tryd.underlying22 (by kernel_rfl) (by kernel_rfl)
theorem rds23 : Rds enc Tryd.prog (Kd.slice 47 k47) 23 (fun l => l.length * 40 ≤ reachBytes ∧ ∀ a ∈ l, W47 a) := Rds.slice rds47 Tryd.underlying23 (by kernel_rfl) (by kernel_rfl)
theorem rds24 : Rds enc Tryd.prog (Kd.slice 57 k57) 24 (fun l => l.length * 40 ≤ reachBytes ∧ ∀ a ∈ l, W57 a) := Rds.slice rds57 Tryd.underlying24 (by kernel_rfl) (by kernel_rfl)
theorem rds26 : Rds enc Tryd.prog k26 26 (fun x => (x.f0.length * 8 ≤ reachBytes ∧ ∀ a ∈ x.f0, W64 a) ∧ (x.f1.length * 40 ≤ reachBytes ∧ ∀ a ∈ x.f1, W47 a) ∧ (x.f2.length * 40 ≤ reachBytes ∧ ∀ a ∈ x.f2, W57 a)) :=
  Rds.iso (RdF.struct Tryd.underlying26 (RdF.cons rds22 rfl (RdF.cons rds23 (by kernel_rfl) (RdF.one rds24 (by kernel_rfl)))) (by kernel_rfl)) _ (fun p => ⟨p.1, p.2.1, p.2.2⟩) (fun _ => rfl)
set_option maxRecDepth 100000 in
/-- A book that came in. -/
theorem open26 {W : World} {v : Value} {d : DataW H} {p : List MemPlace} {r : Reach} {b : Nat} (hv : Value.okWide Tryd.prog W r b 26 v) (h : DataW.Trod enc Tryd.prog W 0 (fun _ => true) true 26 v d p) (hz : (d.weights Tryd.prog 26).all (· ≤ reachBytes) = true) :
    ∃ A0 c0 l0 A1 c1 l1 A2 c2 l2, v = .agg #[.slice A0 l0.length c0, .slice A1 l1.length c1, .slice A2 l2.length c2] ∧ Kd.C (Kd.int .i64) W A0 l0.length l0 ∧ l0.length ≤ c0 ∧ Kd.C k47 W A1 l1.length l1 ∧ l1.length ≤ c1 ∧ Kd.C k57 W A2 l2.length l2 ∧ l2.length ≤ c2 ∧
      l0.length * 8 ≤ 140737488351232 ∧ l1.length * 40 ≤ 140737488351232 ∧ l2.length * 40 ≤ 140737488351232 ∧ (∀ a ∈ l0, W64 a) ∧ (∀ a ∈ l1, W47 a) ∧ (∀ a ∈ l2, W57 a) := by
  obtain ⟨cs, rfl, _⟩ := okWide_struct Tryd.underlying26 hv
  obtain ⟨n, hf⟩ := h
  have hex := rds26 W n _ _ hf hz
  generalize hR : reachBytes = R at hex
  obtain ⟨x, hK, hz0, hz1, hz2⟩ := hex
  have hR' : R = 140737488351232 := hR.symm.trans (by kernel_rfl)
  obtain ⟨A0, c0, A1, c1, A2, c2, hcs, g0, r0, g1, r1, g2, r2⟩ := k26_open hK
  have hcs' : cs = #[.slice A0 x.f0.length c0, .slice A1 x.f1.length c1, .slice A2 x.f2.length c2] := Array.toList_inj.1 hcs
  rw [← hR']
  exact ⟨A0, c0, x.f0, A1, c1, x.f1, A2, c2, x.f2, by rw [hcs'], r0, g0, r1, g1, r2, g2, hz0.1, hz1.1, hz2.1, hz0.2, hz1.2, hz2.2⟩
theorem gFates : Tryd.prog.globalNamed "wishbook/lack.fates" = some 0 := by kernel_rfl
theorem tFates : (Tryd.prog.globals[0]?).map (·.type) = some 115 := by kernel_rfl
theorem cells115 : Tryd.prog.cellsOf 115 = 3 := by kernel_rfl
theorem cells114 : Tryd.prog.cellsOf 114 = 1 := by kernel_rfl
theorem row0 : (((begin Tryd.prog (fun _ _ => 0) default).world.heap[0]?).bind Obj.row?).map Prod.snd = some 115 := by kernel_rfl
theorem globals0 : 0 < Tryd.prog.globals.size := of_decide_eq_true (by kernel_rfl)
set_option maxRecDepth 100000 in
/-- What the condition gives the walks: the table's block. -/
theorem fates_of {W : World} (hsh : W.ShapedOpen Tryd.prog) (h : laidMetH Tryd.prog [("wishbook/lack.fates", Rows.laid_wishbook_lack_fates)] W) : Fates W := by
  obtain ⟨g, t, cs, fuel, p, hg, ht, hv, hd⟩ := h.funcs (List.mem_singleton.2 rfl)
  obtain rfl := Option.some.inj (gFates.symm.trans hg)
  obtain rfl := Option.some.inj (tFates.symm.trans ht)
  obtain ⟨xs, m, rfl, hx, hl, hlen, hi⟩ := DataW.trod_array Tryd.underlying115 hd
  rw [cells115, Array.length_toList] at hl
  obtain ⟨l⟩ := cs
  match l, hl, xs, hlen with
  | [a, b, c], _, [y0, y1, y2], _ =>
    rw [cells114] at hi
    have h0 : DataW.trod (funcToken Tryd.prog) Tryd.prog W 0 (fun _ => true) true m 114 [a] = some y0 := hi 0 (by decide)
    have h1 : DataW.trod (funcToken Tryd.prog) Tryd.prog W 0 (fun _ => true) true m 114 [b] = some y1 := hi 1 (by decide)
    have h2 : DataW.trod (funcToken Tryd.prog) Tryd.prog W 0 (fun _ => true) true m 114 [c] = some y2 := hi 2 (by decide)
    obtain ⟨hx, _⟩ := Prod.mk.inj hx
    have hx' : DataW.agg [DataW.held [40, 42, 119, 105, 115, 104, 98, 111, 111, 107, 47, 108, 97, 99, 107, 46, 98, 111, 111, 107, 41, 46, 115, 101, 110, 116], DataW.held [40, 42, 119, 105, 115, 104, 98, 111, 111, 107, 47, 108, 97, 99, 107, 46, 98, 111, 111, 107, 41, 46, 105, 110, 115, 116, 101, 97, 100], DataW.held [40, 42, 119, 105, 115, 104, 98, 111, 111, 107, 47, 108, 97, 99, 107, 46, 98, 111, 111, 107, 41, 46, 108, 105, 115, 116, 101, 100]] = DataW.agg [y0.1, y1.1, y2.1] := hx
    injection hx' with hx'
    injection hx' with e0 hx'
    injection hx' with e1 hx'
    injection hx' with e2 _
    obtain ⟨y0a, y0b⟩ := y0
    obtain ⟨y1a, y1b⟩ := y1
    obtain ⟨y2a, y2b⟩ := y2
    subst e0 e1 e2
    obtain rfl := func_of_trod (f0 := 120) Tryd.underlying114 (by kernel_rfl) h0
    obtain rfl := func_of_trod (f0 := 121) Tryd.underlying114 (by kernel_rfl) h1
    obtain rfl := func_of_trod (f0 := 122) Tryd.underlying114 (by kernel_rfl) h2
    obtain ⟨⟨zero, ty⟩, hz, hty⟩ := Option.map_eq_some_iff.1 row0
    obtain rfl : ty = 115 := hty
    obtain ⟨cs, hb, _⟩ := hsh.1 0 zero 115 globals0 hz
    unfold World.var? at hv
    rw [gFates] at hv
    simp only [Option.bind_some, hb] at hv
    cases hv
    exact hb
theorem few_of {l0 : List Int} {l1 : List S47} {l2 : List S57} (h0 : l0.length * 8 ≤ 140737488351232) (h1 : l1.length * 40 ≤ 140737488351232) (h2 : l2.length * 40 ≤ 140737488351232) : Few l0 l1 l2 := ⟨by omega, by omega, by omega⟩
end
end Go.Proofs.YtegpepnmnlockaaDoor.PL
namespace Go.Proofs.YtegpepnmnlockaaDoor.PL
open Go.RowKit Go.ChangeShapes Go.WideShapes Go.Deep Go.Proofs.YtegpepnmnlockaaDoorW.PrintWords Go.Proofs.YtegpepnmnlockaaDoorW.PrintLast Go.Proofs.YtegpepnmnlockaaDoorW.PrintMore
set_option linter.unusedVariables false
set_option linter.unusedSimpArgs false
section
variable {H : Type} {enc : TypeId × Value → H}
set_option maxRecDepth 100000 in
theorem open47 {W : World} {v : Value} {d : DataW H} {p : List MemPlace} {r : Reach} {b : Nat} (hv : Value.okWide Tryd.prog W r b 47 v) (h : DataW.Trod enc Tryd.prog W 0 (fun _ => true) true 47 v d p) (hz : (d.weights Tryd.prog 47).all (· ≤ reachBytes) = true) :
    ∃ x : S47, v = .agg #[.int .i64 x.f0, .int .i64 x.f1, .int .i64 x.f2, .int .i64 x.f3, .int .i64 x.f4] ∧ W47 x := by
  obtain ⟨cs, rfl, _⟩ := okWide_struct Tryd.underlying47 hv
  obtain ⟨n, hf⟩ := h
  obtain ⟨x, hK, hw⟩ := rds47 W n _ _ hf hz
  have hcs := k47_open hK
  have hcs' : cs = #[.int .i64 x.f0, .int .i64 x.f1, .int .i64 x.f2, .int .i64 x.f3, .int .i64 x.f4] := Array.toList_inj.1 hcs
  exact ⟨x, by rw [hcs'], hw⟩
end
end Go.Proofs.YtegpepnmnlockaaDoor.PL

/- Part 5 of a proof: what the last text rests on. -/
import Derived.Test.YtegpepnmnlockaaDoorXLackComes4
namespace Go.Proofs.YtegpepnmnlockaaDoor.PL
open Go.RowKit Go.Proofs.YtegpepnmnlockaaDoorW.PrintWords Go.Proofs.YtegpepnmnlockaaDoorW.PrintLast Go.Proofs.YtegpepnmnlockaaDoorW.PrintMore
attribute [local go_sem] max2_int min2_int max_two min_two max_three min_three max_four min_four   -- for this text's walks alone
set_option linter.unusedVariables false
set_option linter.unusedSimpArgs false
def wishbookref10_Last.l0 : Nat → Int → List (S59) → Int → List Int → List (S47) → List (S57) → Option (Int × Int)
  | 0, _, _, _, _, _, _ => none
  | k + 1, x1, x7, x8, x307000, x307001, x307002 => if x8 < (x307002.length : Int) then (if 0 ≤ x8 then (if x7.length < 8796093022208 then (wishbookref10_Last.l0 k x1 (x7 ++ [(⟨(rd_T57 x307002 x8).f1.f1, (rd_T57 x307002 x8).f2.f0⟩ : S59)]) (wrap64 (x8 + 1)) x307000 x307001 x307002) else (none)) else (none)) else ((wishbookref10_Come.f k x307000 x307001 x307002 x1 x7).bind fun bt314 => (some (bt314.1, bt314.2)))
def wishbookref10_Last.f (k : Nat) (l0_0 : List Int) (l0_1 : List (S47)) (l0_2 : List (S57)) (a1 : Int) : Option (Int × Int) := (wishbookref10_isLine.f l0_0 l0_1 l0_2 a1).bind fun t307 => ((wishbookref10_asked.f l0_0 l0_1 l0_2 t307).bind fun t308 => (if t308 = 0 then (wishbookref10_Last.l0 k a1 ([] : List (S59)) 0 l0_0 l0_1 l0_2) else (some (0, t308))))
theorem wishbookref10_Last.mono_l : ∀ k, (∀ y0 y1 y2 y3 y4 y5, LeO (wishbookref10_Last.l0 k y0 y1 y2 y3 y4 y5) (wishbookref10_Last.l0 (k + 1) y0 y1 y2 y3 y4 y5))
  | 0 => fun _ _ _ _ _ _ r h => by simp [wishbookref10_Last.l0] at h
  | k + 1 => by
    have ih0 := wishbookref10_Last.mono_l k
    · intro y0 y1 y2 y3 y4 y5
      unfold wishbookref10_Last.l0
      repeat' first
      | (with_reducible exact ih0 _ _ _ _ _ _)
      | (with_reducible exact wishbookref10_Come.mono _ _ _ _ _ _)
      | (with_reducible exact LeO.refl _)
      | (with_reducible exact LeO.none _)
      | (with_reducible refine LeO.ite ?_ ?_)
      | (with_reducible refine LeO.bind ?_ (fun _ => ?_))
      | exact ih0 _ _ _ _ _ _
      | exact wishbookref10_Come.mono _ _ _ _ _ _
      | exact LeO.none _
      | refine LeO.ite ?_ ?_
      | refine LeO.bind ?_ (fun _ => ?_)
theorem wishbookref10_Last.mono : ∀ a0 a1 a2 a3 k, LeO (wishbookref10_Last.f k a0 a1 a2 a3) (wishbookref10_Last.f (k + 1) a0 a1 a2 a3) := by
  intro a0 a1 a2 a3 k
  have ih0 := wishbookref10_Last.mono_l k
  unfold wishbookref10_Last.f
  repeat' first
      | (with_reducible exact ih0 _ _ _ _ _ _)
      | (with_reducible exact wishbookref10_Come.mono _ _ _ _ _ _)
      | (with_reducible exact LeO.refl _)
      | (with_reducible exact LeO.none _)
      | (with_reducible refine LeO.ite ?_ ?_)
      | (with_reducible refine LeO.bind ?_ (fun _ => ?_))
      | exact ih0 _ _ _ _ _ _
      | exact wishbookref10_Come.mono _ _ _ _ _ _
      | exact LeO.none _
      | refine LeO.ite ?_ ?_
      | refine LeO.bind ?_ (fun _ => ?_)
def wishbookref10_Last.T8 : Bool × List (List Nat × List Nat) := (true, [([], []), ([], []), ([1], [1]), ([], []), ([2, 3], [2, 3]), ([4], [4]), ([5], [5]), ([6], [6]), ([], []), ([8], [8]), ([], []), ([9, 10], [9, 10]), ([11], [11]), ([12], [12]), ([13], [13]), ([7, 14], [7, 14]), ([15], [15]), ([0, 16], [0, 16]), ([17, 17, 0, 1, 2, 3, 4, 5, 6, 7, 8, 9, 10, 11, 12, 13, 14, 15, 16, 17], [0, 17])])
def wishbookref10_Last.B8 : List Nat := [0, 0, 2, 0, 14, 30, 62, 126, 0, 256, 0, 1792, 3840, 7936, 16128, 32766, 65534, 131071, 262143]
theorem wishbookref10_Last.tab8 : rtab .any (opsOf Tryd.f23 8) = wishbookref10_Last.T8 := by kernel_rfl
theorem wishbookref10_Last.bits8 : waitsOk wishbookref10_Last.T8.2 wishbookref10_Last.B8 = true := by kernel_rfl
set_option maxHeartbeats 8000000 in
set_option maxRecDepth 100000 in
theorem wishbookref10_Last.calls (k : Nat) (A0_0 : Option Addr) (c0_0 : Nat) (l0_0 : List Int) (A0_1 : Option Addr) (c0_1 : Nat) (l0_1 : List (S47)) (A0_2 : Option Addr) (c0_2 : Nat) (l0_2 : List (S57)) (a1 : Int) (r1 : Int) (r2 : Int) (w : World) (hr0_0 : Kd.C (Kd.int .i64) w A0_0 l0_0.length l0_0) (hc0_0 : l0_0.length ≤ c0_0) (hr0_1 : Kd.C k47 w A0_1 l0_1.length l0_1) (hc0_1 : l0_1.length ≤ c0_1) (hr0_2 : Kd.C k57 w A0_2 l0_2.length l0_2) (hc0_2 : l0_2.length ≤ c0_2) (h : wishbookref10_Last.f k l0_0 l0_1 l0_2 a1 = some (r1, r2)) :
    Calls Tryd.prog 23 #[.agg #[.slice A0_0 l0_0.length c0_0, .slice A0_1 l0_1.length c0_1, .slice A0_2 l0_2.length c0_2], .int .i64 a1] w fun e w' => e = .returned (.tuple #[.int .i64 r1, .int .i64 r2]) ∧ Below w.heap.size w w' := by
  have hu26 := Tryd.underlying26
  have hu59 := Tryd.underlying59
  have HR0_0 := Aside0.mk hr0_0
  have HC0_0 := Aside0.mk hc0_0
  clear hr0_0 hc0_0
  have HR0_1 := Aside0.mk hr0_1
  have HC0_1 := Aside0.mk hc0_1
  clear hr0_1 hc0_1
  have HR0_2 := Aside0.mk hr0_2
  have HC0_2 := Aside0.mk hc0_2
  clear hr0_2 hc0_2
  have HB := Aside0.mk (Below.refl w.heap.size w)
  have H : ((wishbookref10_isLine.f l0_0 l0_1 l0_2 a1).bind fun t307 => ((wishbookref10_asked.f l0_0 l0_1 l0_2 t307).bind fun t308 => (if t308 = 0 then (wishbookref10_Last.l0 k a1 ([] : List (S59)) 0 l0_0 l0_1 l0_2) else (some (0, t308))))) = some (r1, r2) := h
  clear h
  replace H := Option.bind_eq_some_iff.mp H
  obtain ⟨t307, A30, H⟩ := H
  replace H : ((wishbookref10_asked.f l0_0 l0_1 l0_2 t307).bind fun t308 => (if t308 = 0 then (wishbookref10_Last.l0 k a1 ([] : List (S59)) 0 l0_0 l0_1 l0_2) else (some (0, t308)))) = some (r1, r2) := H
  have A3 := Aside0.mk A30
  clear A30
  replace H := Option.bind_eq_some_iff.mp H
  obtain ⟨t308, A40, H⟩ := H
  replace H : (if t308 = 0 then (wishbookref10_Last.l0 k a1 ([] : List (S59)) 0 l0_0 l0_1 l0_2) else (some (0, t308))) = some (r1, r2) := H
  have A4 := Aside0.mk A40
  clear A40
  by_cases c5 : t308 = 0
  · rw [if_pos c5] at H
    have c5b0 : (t308 == 0) = true := beq_iff_eq.mpr c5
    have c5b1 : (t308 != 0) = false := bne_eq_false_iff_eq.mpr c5
    clear c5
    have H' := Aside0.mk H
    clear H
    go_enter Tryd.func23, Tryd.ntmps23
    try go_wp2_with (first | ((with_reducible refine gate_dst (N := 2) rfl ?_); refine box_event ?hg (N := 2) ?hd (cs := #[.slice A0_0 l0_0.length c0_0, .slice A0_1 l0_1.length c0_1, .slice A0_2 l0_2.length c0_2]) (t := 26) ?hr ?_; (case hd => rfl); (case hg => rfl); (case hr => first | (go_simp; done) | (go_simp; rfl)); intro gb306 hg w6 hbox hb; have n0_ := Aside0.mk (below_step (by repeat (first | (with_reducible first | exact HB.out | apply below_alloc | apply pw_below_drewN | apply below_drew1) | exact HB.out)) hb); have n1_ := Aside0.mk (hbox); have n2_ := Aside0.mk ((by rw [hg]; exact (below_size (by repeat (first | (with_reducible first | exact HB.out | apply below_alloc | apply pw_below_drewN | apply below_drew1) | exact HB.out))) : w.heap.size ≤ gb306)); have n3_ := Aside0.mk ((by rw [hg]; exact (below_size (by repeat (first | (with_reducible first | exact HB.out | apply below_alloc | apply pw_below_drewN | apply below_drew1) | exact HB.out))) : w.heap.size ≤ gb306)); clear HB; have HB := n0_; have BK306 := n1_; have GW306 := n2_; have GE306 := n3_; clear n0_ n1_ n2_ n3_; clear hb hbox hg))
    have n0_ := Aside0.mk (blk_drew BK306.out)
    have n1_ := Aside0.mk (below_drew1 HB.out)
    clear BK306
    clear HB
    have BK306 := n0_
    have HB := n1_
    clear n0_ n1_
    refine start_ (n := 6) (S := fun w' => w'.cell? ⟨gb306, 0, none⟩ = some (.slice A0_0 l0_0.length c0_0) ∧ w'.cell? ⟨gb306, 1, none⟩ = some (.slice A0_1 l0_1.length c0_1) ∧ w'.cell? ⟨gb306, 2, none⟩ = some (.slice A0_2 l0_2.length c0_2)) (ds := []) #[false, false, false, false, false, false] (by kernel_rfl) rfl rfl ⟨(blk_cell BK306.out 0).trans rfl, (blk_cell BK306.out 1).trans rfl, (blk_cell BK306.out 2).trans rfl⟩ (fun hHeld => ?_)
    generalize w6.drew = w7 at BK306 HB hHeld ⊢
    refine pure_ (i := 2) (N := some 11) (v := ?_) (a' := ?_) #[false, false, true, false, false, false] rfl rfl (by kernel_rfl) (fun _ _ _ h => h) (Or.inl ⟨by rfl, ?_⟩) ?_ ?_
    rotate_left
    · intro w'
      go_simp
      with_reducible rfl
    rotate_left
    · simp only [Act.put, List.setIfInBounds_toArray, List.set_cons_zero, List.set_cons_succ, i64_w, i32_w]
      rfl
    refine take_ (i := 0) (N := some 9) (v := ?_) (a' := ?_) #[true, false, true, false, false, false] rfl rfl (by kernel_rfl) (fun _ _ _ h => h) (Or.inl ⟨by rfl, ?_⟩) hHeld ?_ ?_
    rotate_left
    · rintro w' ⟨s0, s1, s2⟩
      go_simp
      with_reducible rfl
    rotate_left
    · simp only [Act.put, List.setIfInBounds_toArray, List.set_cons_zero, List.set_cons_succ, i64_w, i32_w]
      rfl
    refine take_ (i := 1) (N := some 10) (v := ?_) (a' := ?_) #[true, true, true, false, false, false] rfl rfl (by kernel_rfl) (fun _ _ _ h => h) (Or.inl ⟨by rfl, ?_⟩) hHeld ?_ ?_
    rotate_left
    · rintro w' ⟨s0, s1, s2⟩
      go_simp
      with_reducible rfl
    rotate_left
    · simp only [Act.put, List.setIfInBounds_toArray, List.set_cons_zero, List.set_cons_succ, i64_w, i32_w]
      rfl
    refine one_ (i := 3) (N := some 12) #[true, true, true, true, false, false] rfl rfl (by kernel_rfl) (by decide) (fun K hK => ?_)
    refine goes_ Tryd.func53 (by kernel_rfl) rfl #[.agg #[.slice A0_0 l0_0.length c0_0, .slice A0_1 l0_1.length c0_1, .slice A0_2 l0_2.length c0_2], .int .i64 a1] (by rfl) rfl rfl (by (try simp only [List.map_toArray, List.map_cons, List.map_nil]); first | done | rfl | (simp only [List.length_drop, List.length_take]; rfl)) ?_
    with_reducible refine (wishbookref10_isLine.calls _ _ l0_0 _ _ l0_1 _ _ l0_2 a1 t307 _ ?side1 ?side2 ?side3 ?side4 ?side5 ?side6 A3.out).mono ?_
    (case side1 => repeat (first | exact (Kd.C_below HR0_0.out HB.out) | (with_reducible refine Kd.C_alloc ?_ _) | (with_reducible refine Kd.C_drewN ?_ _) | (with_reducible refine Kd.C_drew ?_)))
    (case side2 => exact HC0_0.out)
    (case side3 => repeat (first | exact (Kd.C_below HR0_1.out HB.out) | (with_reducible refine Kd.C_alloc ?_ _) | (with_reducible refine Kd.C_drewN ?_ _) | (with_reducible refine Kd.C_drew ?_)))
    (case side4 => exact HC0_1.out)
    (case side5 => repeat (first | exact (Kd.C_below HR0_2.out HB.out) | (with_reducible refine Kd.C_alloc ?_ _) | (with_reducible refine Kd.C_drewN ?_ _) | (with_reducible refine Kd.C_drew ?_)))
    (case side6 => exact HC0_2.out)
    rintro e w8 ⟨rfl, hb⟩
    refine ⟨_, rfl, ?_⟩
    have n0_ := Aside0.mk (blk_below (g := gb306) (o := .cells #[.slice A0_0 l0_0.length c0_0, .slice A0_1 l0_1.length c0_1, .slice A0_2 l0_2.length c0_2] 26 (0, 0)) (by (with_reducible repeat (first | refine blk_drewN ?_ _ | refine blk_drew ?_ | refine blk_alloc ?_ _)); exact BK306.out) hb)
    have n1_ := Aside0.mk (below_step (by repeat (first | (with_reducible first | exact HB.out | apply below_alloc | apply pw_below_drewN | apply below_drew1 | refine below_set ?_ GE306.out) | exact HB.out)) hb)
    clear BK306
    clear HB
    have BK306 := n0_
    have HB := n1_
    clear n0_ n1_
    (try clear hb)
    (try clear hb2)
    (try clear hk)
    (try clear hi)
    refine hK.out _ _ ⟨(blk_cell BK306.out 0).trans rfl, (blk_cell BK306.out 1).trans rfl, (blk_cell BK306.out 2).trans rfl⟩ (fun hHeld => ?_)
    clear hK K
    refine norm_ (a' := ?_) ?_ ?_
    rotate_left
    · show Act.put _ (some 12) _ = _
      simp only [Act.put, List.setIfInBounds_toArray, List.set_cons_zero, List.set_cons_succ, i64_w, i32_w]
      rfl
    refine one_ (i := 4) (N := some 13) #[true, true, true, true, true, false] rfl rfl (by kernel_rfl) (by decide) (fun K hK => ?_)
    refine goes_ Tryd.func52 (by kernel_rfl) rfl #[.agg #[.slice A0_0 l0_0.length c0_0, .slice A0_1 l0_1.length c0_1, .slice A0_2 l0_2.length c0_2], .bool t307] (by rfl) rfl rfl (by (try simp only [List.map_toArray, List.map_cons, List.map_nil]); first | done | rfl | (simp only [List.length_drop, List.length_take]; rfl)) ?_
    with_reducible refine (wishbookref10_asked.calls _ _ l0_0 _ _ l0_1 _ _ l0_2 t307 t308 _ ?side1 ?side2 ?side3 ?side4 ?side5 ?side6 A4.out).mono ?_
    (case side1 => repeat (first | exact (Kd.C_below HR0_0.out HB.out) | (with_reducible refine Kd.C_alloc ?_ _) | (with_reducible refine Kd.C_drewN ?_ _) | (with_reducible refine Kd.C_drew ?_)))
    (case side2 => exact HC0_0.out)
    (case side3 => repeat (first | exact (Kd.C_below HR0_1.out HB.out) | (with_reducible refine Kd.C_alloc ?_ _) | (with_reducible refine Kd.C_drewN ?_ _) | (with_reducible refine Kd.C_drew ?_)))
    (case side4 => exact HC0_1.out)
    (case side5 => repeat (first | exact (Kd.C_below HR0_2.out HB.out) | (with_reducible refine Kd.C_alloc ?_ _) | (with_reducible refine Kd.C_drewN ?_ _) | (with_reducible refine Kd.C_drew ?_)))
    (case side6 => exact HC0_2.out)
    rintro e w9 ⟨rfl, hb⟩
    refine ⟨_, rfl, ?_⟩
    have n0_ := Aside0.mk (blk_below (g := gb306) (o := .cells #[.slice A0_0 l0_0.length c0_0, .slice A0_1 l0_1.length c0_1, .slice A0_2 l0_2.length c0_2] 26 (0, 0)) (by (with_reducible repeat (first | refine blk_drewN ?_ _ | refine blk_drew ?_ | refine blk_alloc ?_ _)); exact BK306.out) hb)
    have n1_ := Aside0.mk (below_step (by repeat (first | (with_reducible first | exact HB.out | apply below_alloc | apply pw_below_drewN | apply below_drew1 | refine below_set ?_ GE306.out) | exact HB.out)) hb)
    clear BK306
    clear HB
    have BK306 := n0_
    have HB := n1_
    clear n0_ n1_
    (try clear hb)
    (try clear hb2)
    (try clear hk)
    (try clear hi)
    refine hK.out _ _ ⟨(blk_cell BK306.out 0).trans rfl, (blk_cell BK306.out 1).trans rfl, (blk_cell BK306.out 2).trans rfl⟩ (fun hHeld => ?_)
    clear hK K
    refine norm_ (a' := ?_) ?_ ?_
    rotate_left
    · show Act.put _ (some 13) _ = _
      simp only [Act.put, List.setIfInBounds_toArray, List.set_cons_zero, List.set_cons_succ, i64_w, i32_w]
      rfl
    refine pure_ (i := 5) (N := some 6) (v := ?_) (a' := ?_) #[true, true, true, true, true, true] rfl rfl (by kernel_rfl) (fun _ _ _ h => h) (Or.inl ⟨by rfl, ?_⟩) ?_ ?_
    rotate_left
    · intro w'
      go_simp
      with_reducible rfl
    rotate_left
    · simp only [Act.put, List.setIfInBounds_toArray, List.set_cons_zero, List.set_cons_succ, i64_w, i32_w]
      rfl
    refine done_ (by kernel_rfl) ?_
    try go_wp2
    go_loopg [7, 8] k (fun kq v7 v8 w' => ∃ (x7_1 : List (S59)) (x8_1 : Int), v8 = .int .i64 x8_1 ∧ Aside0 (wishbookref10_Last.l0 kq a1 x7_1 x8_1 l0_0 l0_1 l0_2 = some (r1, r2)) ∧ Aside0 (kq ≤ k) ∧ Aside0 (Kd.R k59 59 w' w.heap.size (fun _ => True) v7 x7_1) ∧ Aside0 (w'.heap[gb306]? = some (.cells #[(.slice A0_0 l0_0.length c0_0), (.slice A0_1 l0_1.length c0_1), (.slice A0_2 l0_2.length c0_2)] 26 (0, 0))) ∧ Aside0 (Below w.heap.size w w'))
    case atStart => exact ⟨(([] : List (S59))), (0), (by first | rfl | (simp; done) | (simp [*]; done)), H', ⟨Nat.le_refl _⟩, ⟨by first | exact Kd.R_nil _ _ _ _ _ | exact Kd.N_nil _ _ _ _ _ | exact Kd.V_nil _ _ _ _ _ | exact Kd.Q_nil _ _ _ _ _ | exact Kd.S_nil _ _ _ _ _⟩, ⟨by (with_reducible repeat (first | refine blk_drewN ?_ _ | refine blk_drew ?_ | refine blk_alloc ?_ _)); exact BK306.out⟩, ⟨by repeat (first | (with_reducible first | exact HB.out | apply below_alloc | apply pw_below_drewN | apply below_drew1 | refine below_set ?_ GE306.out) | exact HB.out)⟩⟩
    case round =>
      clear H'
      try clear c2
      try clear p2
      try clear c5
      try clear c5b0
      try clear c5b1
      obtain ⟨x7_1, x8_1, rfl, HA, HK1, HO_7, BK306, HB⟩ := hrel
      cases gk with
      | zero => exact absurd HA.out (by simp [wishbookref10_Last.l0])
      | succ k1 =>
        have H := HA.out
        clear HA
        simp only [wishbookref10_Last.l0] at H
        by_cases c10 : x8_1 < (l0_2.length : Int)
        · rw [if_pos c10] at H
          have c10b0 : decide (x8_1 < (l0_2.length : Int)) = true := decide_eq_true c10
          clear c10
          by_cases c11 : 0 ≤ x8_1
          · rw [if_pos c11] at H
            have c11b0 : decide (0 ≤ x8_1) = true := decide_eq_true c11
            clear c11
            by_cases c12 : x7_1.length < 8796093022208
            · rw [if_pos c12] at H
              have LMc12 := Aside0.mk c12
              clear c12
              obtain ⟨y311, hy311⟩ : ∃ y_ : List (S59), y_ = (x7_1 ++ [(⟨(rd_T57 l0_2 x8_1).f1.f1, (rd_T57 l0_2 x8_1).f2.f0⟩ : S59)]) := ⟨_, rfl⟩
              replace H : (wishbookref10_Last.l0 k1 a1 y311 (wrap64 (x8_1 + 1)) l0_0 l0_1 l0_2) = some (r1, r2) := by first | (rw [hy311]; with_reducible exact H) | (have H2_ := (Option.bind_some _ _).symm.trans H; rw [hy311]; with_reducible exact H2_) | (have H2_ := (Option.bind_some _ _).symm.trans H; with_reducible exact H2_) | with_reducible exact H | (rw [hy311]; exact H) | exact H
              have Ny311 := Aside0.mk hy311
              clear hy311
              have H' := Aside0.mk H
              clear H
              have hcz13_0 : wr.cell? ⟨gb306, 0, none⟩ = some (.slice A0_0 l0_0.length c0_0) := (blk_cell BK306.out 0).trans rfl
              have hcz13_1 : wr.cell? ⟨gb306, 1, none⟩ = some (.slice A0_1 l0_1.length c0_1) := (blk_cell BK306.out 1).trans rfl
              have hcz13_2 : wr.cell? ⟨gb306, 2, none⟩ = some (.slice A0_2 l0_2.length c0_2) := (blk_cell BK306.out 2).trans rfl
              have hfz13_0 := blk_frozen BK306.out 0
              have hfz13_1 := blk_frozen BK306.out 1
              have hfz13_2 := blk_frozen BK306.out 2
              try go_wp2
              have n0_ := Aside0.mk (Kd.R_drew HO_7.out)
              have n1_ := Aside0.mk (blk_drew BK306.out)
              have n2_ := Aside0.mk (below_drew1 HB.out)
              clear HO_7
              clear BK306
              clear HB
              have HO_7 := n0_
              have BK306 := n1_
              have HB := n2_
              clear n0_ n1_ n2_
              have p309 : 0 ≤ (x8_1 : Int) := of_decide_eq_true (by first | (with_reducible assumption) | assumption)
              have q309 : x8_1 < (l0_2.length : Int) := of_decide_eq_true (by first | (with_reducible assumption) | assumption)
              obtain ⟨ad309, e309, hx309_0, hx309_1, hx309_2, hx309_3, hx309_4⟩ := at_T57 HR0_2.out x8_1 p309 q309
              have hw309_4 := hx309_4
              have hw309_3 := hx309_3
              have hw309_2 := hx309_2
              have hw309_1 := hx309_1
              have hw309_0 := hx309_0
              cases e309
              replace hx309_0 := (HB.out.cell (World.block_lt_of_cell? w _ hx309_0)).trans hx309_0
              replace hx309_1 := (HB.out.cell (World.block_lt_of_cell? w _ hx309_1)).trans hx309_1
              replace hx309_2 := (HB.out.cell (World.block_lt_of_cell? w _ hx309_2)).trans hx309_2
              replace hx309_3 := (HB.out.cell (World.block_lt_of_cell? w _ hx309_3)).trans hx309_3
              replace hx309_4 := (HB.out.cell (World.block_lt_of_cell? w _ hx309_4)).trans hx309_4
              replace p309 := eq_true p309
              replace q309 := eq_true q309
              have p310 : 0 ≤ (x8_1 : Int) := of_decide_eq_true (by first | (with_reducible assumption) | assumption)
              have q310 : x8_1 < (l0_2.length : Int) := of_decide_eq_true (by first | (with_reducible assumption) | assumption)
              obtain ⟨ad310, e310, hx310_0, hx310_1, hx310_2, hx310_3, hx310_4⟩ := at_T57 HR0_2.out x8_1 p310 q310
              have hw310_4 := hx310_4
              have hw310_3 := hx310_3
              have hw310_2 := hx310_2
              have hw310_1 := hx310_1
              have hw310_0 := hx310_0
              obtain rfl : ad309 = ad310 := (by injection e310)
              replace hx310_0 := (HB.out.cell (World.block_lt_of_cell? w _ hx310_0)).trans hx310_0
              replace hx310_1 := (HB.out.cell (World.block_lt_of_cell? w _ hx310_1)).trans hx310_1
              replace hx310_2 := (HB.out.cell (World.block_lt_of_cell? w _ hx310_2)).trans hx310_2
              replace hx310_3 := (HB.out.cell (World.block_lt_of_cell? w _ hx310_3)).trans hx310_3
              replace hx310_4 := (HB.out.cell (World.block_lt_of_cell? w _ hx310_4)).trans hx310_4
              replace p310 := eq_true p310
              replace q310 := eq_true q310
              refine start_ (n := 19) (S := fun w' => w'.cell? ⟨gb306, 0, none⟩ = some (.slice A0_0 l0_0.length c0_0) ∧ w'.cell? ⟨gb306, 1, none⟩ = some (.slice A0_1 l0_1.length c0_1) ∧ w'.cell? ⟨gb306, 2, none⟩ = some (.slice (some ad309) l0_2.length c0_2) ∧ w'.cell? (ad309.add ((x8_1).toNat * 5)) = some (.int .i64 ((rd_T57 l0_2 x8_1).f0)) ∧ w'.cell? ⟨(ad309.add ((x8_1).toNat * 5)).block, (ad309.add ((x8_1).toNat * 5)).off + 1, none⟩ = some (.int .i64 ((rd_T57 l0_2 x8_1).f1.f0)) ∧ w'.cell? ⟨(ad309.add ((x8_1).toNat * 5)).block, (ad309.add ((x8_1).toNat * 5)).off + 2, none⟩ = some (.int .i64 ((rd_T57 l0_2 x8_1).f1.f1)) ∧ w'.cell? ⟨(ad309.add ((x8_1).toNat * 5)).block, (ad309.add ((x8_1).toNat * 5)).off + 3, none⟩ = some (.int .i64 ((rd_T57 l0_2 x8_1).f2.f0)) ∧ w'.cell? ⟨(ad309.add ((x8_1).toNat * 5)).block, (ad309.add ((x8_1).toNat * 5)).off + 4, none⟩ = some (.int .i64 ((rd_T57 l0_2 x8_1).f2.f1)) ∧ w'.cell? (ad309.add ((x8_1).toNat * 5)) = some (.int .i64 ((rd_T57 l0_2 x8_1).f0)) ∧ w'.cell? ⟨(ad309.add ((x8_1).toNat * 5)).block, (ad309.add ((x8_1).toNat * 5)).off + 1, none⟩ = some (.int .i64 ((rd_T57 l0_2 x8_1).f1.f0)) ∧ w'.cell? ⟨(ad309.add ((x8_1).toNat * 5)).block, (ad309.add ((x8_1).toNat * 5)).off + 2, none⟩ = some (.int .i64 ((rd_T57 l0_2 x8_1).f1.f1)) ∧ w'.cell? ⟨(ad309.add ((x8_1).toNat * 5)).block, (ad309.add ((x8_1).toNat * 5)).off + 3, none⟩ = some (.int .i64 ((rd_T57 l0_2 x8_1).f2.f0)) ∧ w'.cell? ⟨(ad309.add ((x8_1).toNat * 5)).block, (ad309.add ((x8_1).toNat * 5)).off + 4, none⟩ = some (.int .i64 ((rd_T57 l0_2 x8_1).f2.f1))) (ds := []) #[false, false, false, false, false, false, false, false, false, false, false, false, false, false, false, false, false, false, false] (by kernel_rfl) rfl rfl ⟨(blk_cell BK306.out 0).trans rfl, (blk_cell BK306.out 1).trans rfl, (blk_cell BK306.out 2).trans rfl, ((HB.out.cell (World.block_lt_of_cell? w _ hw309_0)).trans hw309_0), ((HB.out.cell (World.block_lt_of_cell? w _ hw309_1)).trans hw309_1), ((HB.out.cell (World.block_lt_of_cell? w _ hw309_2)).trans hw309_2), ((HB.out.cell (World.block_lt_of_cell? w _ hw309_3)).trans hw309_3), ((HB.out.cell (World.block_lt_of_cell? w _ hw309_4)).trans hw309_4), ((HB.out.cell (World.block_lt_of_cell? w _ hw310_0)).trans hw310_0), ((HB.out.cell (World.block_lt_of_cell? w _ hw310_1)).trans hw310_1), ((HB.out.cell (World.block_lt_of_cell? w _ hw310_2)).trans hw310_2), ((HB.out.cell (World.block_lt_of_cell? w _ hw310_3)).trans hw310_3), ((HB.out.cell (World.block_lt_of_cell? w _ hw310_4)).trans hw310_4)⟩ (fun hHeld => ?_); refine with_tabW wishbookref10_Last.tab8 wishbookref10_Last.bits8 (fun HT_ HW_ => ?_)
              generalize wr.drew = w14 at HO_7 BK306 HB hx309_0 hx309_1 hx309_2 hx309_3 hx309_4 hx310_0 hx310_1 hx310_2 hx310_3 hx310_4 hHeld ⊢
              refine pure_ (i := 0) (N := some 24) (v := ?_) (a' := ?_) #[true, false, false, false, false, false, false, false, false, false, false, false, false, false, false, false, false, false, false] rfl rfl (any_of HT_.out (by kernel_rfl)) (fun _ _ _ h => h) (Or.inl ⟨by rfl, ?_⟩) ?_ ?_
              rotate_left
              · intro w'
                go_simp
                with_reducible rfl
              rotate_left
              · simp only [Act.put, List.setIfInBounds_toArray, List.set_cons_zero, List.set_cons_succ, i64_w, i32_w]
                rfl
              refine pure_ (i := 1) (N := some 25) (v := ?_) (a' := ?_) #[true, true, false, false, false, false, false, false, false, false, false, false, false, false, false, false, false, false, false] rfl rfl (any_of HT_.out (by kernel_rfl)) (fun _ _ _ h => h) (Or.inl ⟨by rfl, ?_⟩) ?_ ?_
              rotate_left
              · intro w'
                go_simp
                with_reducible rfl
              rotate_left
              · simp only [Act.put, List.setIfInBounds_toArray, List.set_cons_zero, List.set_cons_succ, i64_w, i32_w]
                rfl
              refine pure_ (i := 3) (N := some 27) (v := ?_) (a' := ?_) #[true, true, false, true, false, false, false, false, false, false, false, false, false, false, false, false, false, false, false] rfl rfl (any_of HT_.out (by kernel_rfl)) (fun _ _ _ h => h) (Or.inl ⟨by rfl, ?_⟩) ?_ ?_
              rotate_left
              · intro w'
                go_simp
                with_reducible rfl
              rotate_left
              · simp only [Act.put, List.setIfInBounds_toArray, List.set_cons_zero, List.set_cons_succ, i64_w, i32_w]
                rfl
              refine pure_ (i := 8) (N := some 32) (v := ?_) (a' := ?_) #[true, true, false, true, false, false, false, false, true, false, false, false, false, false, false, false, false, false, false] rfl rfl (any_of HT_.out (by kernel_rfl)) (fun _ _ _ h => h) (Or.inl ⟨by rfl, ?_⟩) ?_ ?_
              rotate_left
              · intro w'
                go_simp
                with_reducible rfl
              rotate_left
              · simp only [Act.put, List.setIfInBounds_toArray, List.set_cons_zero, List.set_cons_succ, i64_w, i32_w]
                rfl
              refine pure_ (i := 10) (N := some 34) (v := ?_) (a' := ?_) #[true, true, false, true, false, false, false, false, true, false, true, false, false, false, false, false, false, false, false] rfl rfl (any_of HT_.out (by kernel_rfl)) (fun _ _ _ h => h) (Or.inl ⟨by rfl, ?_⟩) ?_ ?_
              rotate_left
              · intro w'
                go_simp
                with_reducible rfl
              rotate_left
              · simp only [Act.put, List.setIfInBounds_toArray, List.set_cons_zero, List.set_cons_succ, i64_w, i32_w]
                rfl
              refine take_ (i := 2) (N := some 26) (v := ?_) (a' := ?_) #[true, true, true, true, false, false, false, false, true, false, true, false, false, false, false, false, false, false, false] rfl rfl (take_ofW HT_.out HW_.out (by kernel_rfl)) (fun _ _ _ h => h) (Or.inl ⟨by rfl, ?_⟩) hHeld ?_ ?_
              rotate_left
              · rintro w' ⟨s0, s1, s2, s3, s4, s5, s6, s7, s8, s9, s10, s11, s12⟩
                go_simp
                with_reducible rfl
              rotate_left
              · simp only [Act.put, List.setIfInBounds_toArray, List.set_cons_zero, List.set_cons_succ, i64_w, i32_w]
                rfl
              refine pure_ (i := 4) (N := some 28) (v := ?_) (a' := ?_) #[true, true, true, true, true, false, false, false, true, false, true, false, false, false, false, false, false, false, false] rfl rfl (any_of HT_.out (by kernel_rfl)) (fun _ _ _ h => h) (Or.inl ⟨by rfl, ?_⟩) ?_ ?_
              rotate_left
              · intro w'
                go_simp
                with_reducible rfl
              rotate_left
              · simp only [Act.put, List.setIfInBounds_toArray, List.set_cons_zero, List.set_cons_succ, i64_w, i32_w]
                rfl
              refine pure_ (i := 5) (N := some 29) (v := ?_) (a' := ?_) #[true, true, true, true, true, true, false, false, true, false, true, false, false, false, false, false, false, false, false] rfl rfl (any_of HT_.out (by kernel_rfl)) (fun _ _ _ h => h) (Or.inl ⟨by rfl, ?_⟩) ?_ ?_
              rotate_left
              · intro w'
                go_simp
                with_reducible rfl
              rotate_left
              · simp only [Act.put, List.setIfInBounds_toArray, List.set_cons_zero, List.set_cons_succ, i64_w, i32_w]
                rfl
              refine pure_ (i := 6) (N := some 30) (v := ?_) (a' := ?_) #[true, true, true, true, true, true, true, false, true, false, true, false, false, false, false, false, false, false, false] rfl rfl (any_of HT_.out (by kernel_rfl)) (fun _ _ _ h => h) (Or.inl ⟨by rfl, ?_⟩) ?_ ?_
              rotate_left
              · intro w'
                go_simp
                with_reducible rfl
              rotate_left
              · simp only [Act.put, List.setIfInBounds_toArray, List.set_cons_zero, List.set_cons_succ, i64_w, i32_w]
                rfl
              refine take_ (i := 7) (N := some 31) (v := ?_) (a' := ?_) #[true, true, true, true, true, true, true, true, true, false, true, false, false, false, false, false, false, false, false] rfl rfl (take_ofW HT_.out HW_.out (by kernel_rfl)) (fun _ _ _ h => h) (Or.inl ⟨by rfl, ?_⟩) hHeld ?_ ?_
              rotate_left
              · rintro w' ⟨s0, s1, s2, s3, s4, s5, s6, s7, s8, s9, s10, s11, s12⟩
                go_simp
                with_reducible rfl
              rotate_left
              · simp only [Act.put, List.setIfInBounds_toArray, List.set_cons_zero, List.set_cons_succ, i64_w, i32_w]
                rfl
              refine take_ (i := 9) (N := some 33) (v := ?_) (a' := ?_) #[true, true, true, true, true, true, true, true, true, true, true, false, false, false, false, false, false, false, false] rfl rfl (take_ofW HT_.out HW_.out (by kernel_rfl)) (fun _ _ _ h => h) (Or.inl ⟨by rfl, ?_⟩) hHeld ?_ ?_
              rotate_left
              · rintro w' ⟨s0, s1, s2, s3, s4, s5, s6, s7, s8, s9, s10, s11, s12⟩
                go_simp
                with_reducible rfl
              rotate_left
              · simp only [Act.put, List.setIfInBounds_toArray, List.set_cons_zero, List.set_cons_succ, i64_w, i32_w]
                rfl
              refine pure_ (i := 11) (N := some 35) (v := ?_) (a' := ?_) #[true, true, true, true, true, true, true, true, true, true, true, true, false, false, false, false, false, false, false] rfl rfl (any_of HT_.out (by kernel_rfl)) (fun _ _ _ h => h) (Or.inl ⟨by rfl, ?_⟩) ?_ ?_
              rotate_left
              · intro w'
                go_simp
                with_reducible rfl
              rotate_left
              · simp only [Act.put, List.setIfInBounds_toArray, List.set_cons_zero, List.set_cons_succ, i64_w, i32_w]
                rfl
              refine pure_ (i := 12) (N := some 36) (v := ?_) (a' := ?_) #[true, true, true, true, true, true, true, true, true, true, true, true, true, false, false, false, false, false, false] rfl rfl (any_of HT_.out (by kernel_rfl)) (fun _ _ _ h => h) (Or.inl ⟨by rfl, ?_⟩) ?_ ?_
              rotate_left
              · intro w'
                go_simp
                with_reducible rfl
              rotate_left
              · simp only [Act.put, List.setIfInBounds_toArray, List.set_cons_zero, List.set_cons_succ, i64_w, i32_w]
                rfl
              refine pure_ (i := 13) (N := some 37) (v := ?_) (a' := ?_) #[true, true, true, true, true, true, true, true, true, true, true, true, true, true, false, false, false, false, false] rfl rfl (any_of HT_.out (by kernel_rfl)) (fun _ _ _ h => h) (Or.inl ⟨by rfl, ?_⟩) ?_ ?_
              rotate_left
              · intro w'
                go_simp
                with_reducible rfl
              rotate_left
              · simp only [Act.put, List.setIfInBounds_toArray, List.set_cons_zero, List.set_cons_succ, i64_w, i32_w]
                rfl
              refine take_ (i := 14) (N := some 38) (v := ?_) (a' := ?_) #[true, true, true, true, true, true, true, true, true, true, true, true, true, true, true, false, false, false, false] rfl rfl (take_ofW HT_.out HW_.out (by kernel_rfl)) (fun _ _ _ h => h) (Or.inl ⟨by rfl, ?_⟩) hHeld ?_ ?_
              rotate_left
              · rintro w' ⟨s0, s1, s2, s3, s4, s5, s6, s7, s8, s9, s10, s11, s12⟩
                go_simp
                with_reducible rfl
              rotate_left
              · simp only [Act.put, List.setIfInBounds_toArray, List.set_cons_zero, List.set_cons_succ, i64_w, i32_w]
                rfl
              refine pure_ (i := 15) (N := some 39) (v := ?_) (a' := ?_) #[true, true, true, true, true, true, true, true, true, true, true, true, true, true, true, true, false, false, false] rfl rfl (any_of HT_.out (by kernel_rfl)) (fun _ _ _ h => h) (Or.inl ⟨by rfl, ?_⟩) ?_ ?_
              rotate_left
              · intro w'
                go_simp
                with_reducible rfl
              rotate_left
              · simp only [Act.put, List.setIfInBounds_toArray, List.set_cons_zero, List.set_cons_succ, i64_w, i32_w]
                rfl
              refine one_ (i := 16) (N := some 40) #[true, true, true, true, true, true, true, true, true, true, true, true, true, true, true, true, true, false, false] rfl rfl (one_of HT_.out (by kernel_rfl)) (by decide) (fun K hK => ?_)
              refine value_ (w1 := ?_) (v := ?_) (by rfl) rfl ?_ ?_
              rotate_left 2
              · go_simp
                constructor
                · rfl
                · rfl
              refine hK.out _ _ ⟨(blk_cell (blk_alloc BK306.out _) 0).trans rfl, (blk_cell (blk_alloc BK306.out _) 1).trans rfl, (blk_cell (blk_alloc BK306.out _) 2).trans rfl, (World.cell?_alloc_lt _ _ _ (World.block_lt_of_cell? _ _ (((HB.out.cell (World.block_lt_of_cell? w _ hw309_0)).trans hw309_0)))).trans (((HB.out.cell (World.block_lt_of_cell? w _ hw309_0)).trans hw309_0)), (World.cell?_alloc_lt _ _ _ (World.block_lt_of_cell? _ _ (((HB.out.cell (World.block_lt_of_cell? w _ hw309_1)).trans hw309_1)))).trans (((HB.out.cell (World.block_lt_of_cell? w _ hw309_1)).trans hw309_1)), (World.cell?_alloc_lt _ _ _ (World.block_lt_of_cell? _ _ (((HB.out.cell (World.block_lt_of_cell? w _ hw309_2)).trans hw309_2)))).trans (((HB.out.cell (World.block_lt_of_cell? w _ hw309_2)).trans hw309_2)), (World.cell?_alloc_lt _ _ _ (World.block_lt_of_cell? _ _ (((HB.out.cell (World.block_lt_of_cell? w _ hw309_3)).trans hw309_3)))).trans (((HB.out.cell (World.block_lt_of_cell? w _ hw309_3)).trans hw309_3)), (World.cell?_alloc_lt _ _ _ (World.block_lt_of_cell? _ _ (((HB.out.cell (World.block_lt_of_cell? w _ hw309_4)).trans hw309_4)))).trans (((HB.out.cell (World.block_lt_of_cell? w _ hw309_4)).trans hw309_4)), (World.cell?_alloc_lt _ _ _ (World.block_lt_of_cell? _ _ (((HB.out.cell (World.block_lt_of_cell? w _ hw310_0)).trans hw310_0)))).trans (((HB.out.cell (World.block_lt_of_cell? w _ hw310_0)).trans hw310_0)), (World.cell?_alloc_lt _ _ _ (World.block_lt_of_cell? _ _ (((HB.out.cell (World.block_lt_of_cell? w _ hw310_1)).trans hw310_1)))).trans (((HB.out.cell (World.block_lt_of_cell? w _ hw310_1)).trans hw310_1)), (World.cell?_alloc_lt _ _ _ (World.block_lt_of_cell? _ _ (((HB.out.cell (World.block_lt_of_cell? w _ hw310_2)).trans hw310_2)))).trans (((HB.out.cell (World.block_lt_of_cell? w _ hw310_2)).trans hw310_2)), (World.cell?_alloc_lt _ _ _ (World.block_lt_of_cell? _ _ (((HB.out.cell (World.block_lt_of_cell? w _ hw310_3)).trans hw310_3)))).trans (((HB.out.cell (World.block_lt_of_cell? w _ hw310_3)).trans hw310_3)), (World.cell?_alloc_lt _ _ _ (World.block_lt_of_cell? _ _ (((HB.out.cell (World.block_lt_of_cell? w _ hw310_4)).trans hw310_4)))).trans (((HB.out.cell (World.block_lt_of_cell? w _ hw310_4)).trans hw310_4))⟩ (fun hHeld => ?_)
              clear hK K
              refine norm_ (a' := ?_) ?_ ?_
              rotate_left
              · show Act.put _ (some 40) _ = _
                simp only [Act.put, List.setIfInBounds_toArray, List.set_cons_zero, List.set_cons_succ, i64_w, i32_w]
                rfl
              refine one_ (i := 17) (N := some 41) #[true, true, true, true, true, true, true, true, true, true, true, true, true, true, true, true, true, true, false] rfl rfl (one_of HT_.out (by kernel_rfl)) (by decide) (fun K hK => ?_)
              refine Kd.R_append_step k59 (w0 := w) w.heap.size (by rfl) (.tmp 24) (.tmp 40) 35 59 (.agg #[(.int .i64 0), (.int .i64 0)]) 16 rfl Tryd.underlying35 info59 rfl (by decide) (by omega) u7 x7_1 (⟨(rd_T57 l0_2 x8_1).f1.f1, (rd_T57 l0_2 x8_1).f2.f0⟩ : S59) [.int .i64 ((rd_T57 l0_2 x8_1).f1.f1), .int .i64 ((rd_T57 l0_2 x8_1).f2.f0)] (fun _ => True) (fun _ => False) rfl rfl ?aP (fun _ hk => hk.elim) ?aF ?aO ?aB ?aS ?aL ?_
              (case aP => exact k59_mkM _ _ _ (⟨(rd_T57 l0_2 x8_1).f1.f1, (rd_T57 l0_2 x8_1).f2.f0⟩ : S59))
              (case aB => exact (by repeat (first | (with_reducible first | exact HB.out | apply below_alloc | apply pw_below_drewN | apply below_drew1 | refine below_set ?_ GE306.out) | exact HB.out)))
              (case aF => exact (fun _ _ => trivial))
              (case aO => exact (by (with_reducible repeat (first | apply Kd.R_alloc | apply Kd.R_drewN | apply Kd.R_drew)); exact HO_7.out))
              (case aS => exact (below_size (by repeat (first | (with_reducible first | exact HB.out | apply below_alloc | apply pw_below_drewN | apply below_drew1 | refine below_set ?_ GE306.out) | exact HB.out))))
              (case aL => have := LMc12.out; omega)
              intro v312 w15 ho hb hg hat
              rw [← Ny311.out] at ho
              have n0_ := Aside0.mk (blk_grown (g := gb306) (o := .cells #[.slice A0_0 l0_0.length c0_0, .slice A0_1 l0_1.length c0_1, .slice (some ad309) l0_2.length c0_2] 26 (0, 0)) (by (with_reducible repeat (first | refine blk_drewN ?_ _ | refine blk_drew ?_ | refine blk_alloc ?_ _)); exact BK306.out) hg (Kd.R_ne HO_7.out BK306.out (by decide)))
              have n1_ := Aside0.mk (hb)
              have n2_ := Aside0.mk (ho)
              clear BK306
              clear HB
              clear HO_7
              have BK306 := n0_
              have HB := n1_
              have HO313 := n2_
              clear n0_ n1_ n2_
              clear ho hb hg hat
              refine hK.out _ _ ⟨(blk_cell BK306.out 0).trans rfl, (blk_cell BK306.out 1).trans rfl, (blk_cell BK306.out 2).trans rfl, ((HB.out.cell (World.block_lt_of_cell? w _ hw309_0)).trans hw309_0), ((HB.out.cell (World.block_lt_of_cell? w _ hw309_1)).trans hw309_1), ((HB.out.cell (World.block_lt_of_cell? w _ hw309_2)).trans hw309_2), ((HB.out.cell (World.block_lt_of_cell? w _ hw309_3)).trans hw309_3), ((HB.out.cell (World.block_lt_of_cell? w _ hw309_4)).trans hw309_4), ((HB.out.cell (World.block_lt_of_cell? w _ hw310_0)).trans hw310_0), ((HB.out.cell (World.block_lt_of_cell? w _ hw310_1)).trans hw310_1), ((HB.out.cell (World.block_lt_of_cell? w _ hw310_2)).trans hw310_2), ((HB.out.cell (World.block_lt_of_cell? w _ hw310_3)).trans hw310_3), ((HB.out.cell (World.block_lt_of_cell? w _ hw310_4)).trans hw310_4)⟩ (fun hHeld => ?_)
              clear hK K
              refine norm_ (a' := ?_) ?_ ?_
              rotate_left
              · show Act.put _ (some 41) _ = _
                simp only [Act.put, List.setIfInBounds_toArray, List.set_cons_zero, List.set_cons_succ, i64_w, i32_w]
                rfl
              refine pure_ (i := 18) (N := some 7) (v := ?_) (a' := ?_) #[true, true, true, true, true, true, true, true, true, true, true, true, true, true, true, true, true, true, true] rfl rfl (any_of HT_.out (by kernel_rfl)) (fun _ _ _ h => h) (Or.inl ⟨by rfl, ?_⟩) ?_ ?_
              rotate_left
              · intro w'
                go_simp
                with_reducible rfl
              rotate_left
              · simp only [Act.put, List.setIfInBounds_toArray, List.set_cons_zero, List.set_cons_succ, i64_w, i32_w]
                rfl
              refine done_ (done_of HT_.out (by kernel_rfl)) ?_
              try go_wp2
              go_roundg k1
              case measure => have := HK1.out; omega
              case rel => exact ⟨(y311), (wrap64 (x8_1 + 1)), (by first | rfl | (simp; done) | (simp [*]; done)), H', ⟨by have := HK1.out; omega⟩, ⟨by (with_reducible repeat (first | apply Kd.R_alloc | apply Kd.R_drewN | apply Kd.R_drew)); exact HO313.out⟩, ⟨by (with_reducible repeat (first | refine blk_drewN ?_ _ | refine blk_drew ?_ | refine blk_alloc ?_ _)); exact BK306.out⟩, ⟨by repeat (first | (with_reducible first | exact HB.out | apply below_alloc | apply pw_below_drewN | apply below_drew1 | refine below_set ?_ GE306.out) | exact HB.out)⟩⟩
            · rw [if_neg c12] at H
              exact absurd H (by simp)
          · rw [if_neg c11] at H
            exact absurd H (by simp)
        · rw [if_neg c10] at H
          have c10b0 : decide (x8_1 < (l0_2.length : Int)) = false := decide_eq_false c10
          clear c10
          replace H := Option.bind_eq_some_iff.mp H
          obtain ⟨⟨t314, t315⟩, A160, H⟩ := H
          replace H : (some (t314, t315)) = some (r1, r2) := H
          have A16 := Aside0.mk A160
          clear A160
          simp only [Option.some.injEq, Prod.mk.injEq] at H
          obtain ⟨rfl, rfl⟩ := H
          have hcz17_0 : wr.cell? ⟨gb306, 0, none⟩ = some (.slice A0_0 l0_0.length c0_0) := (blk_cell BK306.out 0).trans rfl
          have hcz17_1 : wr.cell? ⟨gb306, 1, none⟩ = some (.slice A0_1 l0_1.length c0_1) := (blk_cell BK306.out 1).trans rfl
          have hcz17_2 : wr.cell? ⟨gb306, 2, none⟩ = some (.slice A0_2 l0_2.length c0_2) := (blk_cell BK306.out 2).trans rfl
          have hfz17_0 := blk_frozen BK306.out 0
          have hfz17_1 := blk_frozen BK306.out 1
          have hfz17_2 := blk_frozen BK306.out 2
          obtain ⟨Ao18, co18, eo18⟩ := Kd.R_slice HO_7.out
          subst eo18
          go_wp2_with (first | ((with_reducible refine gate_callee (f := 21) rfl ?_); refine goesL_ (some 45) rfl rfl Tryd.func21 (by kernel_rfl) rfl #[.agg #[.slice A0_0 l0_0.length c0_0, .slice A0_1 l0_1.length c0_1, .slice A0_2 l0_2.length c0_2], .int .i64 a1, .slice Ao18 x7_1.length co18] rfl (by (try simp only [List.map_toArray, List.map_cons, List.map_nil]); first | done | rfl | (simp only [List.length_drop, List.length_take]; rfl)) ?_; (with_reducible refine (wishbookref10_Come.calls k1 _ _ l0_0 _ _ l0_1 _ _ l0_2 a1 _ _ x7_1 t314 t315 _ ?side1 ?side2 ?side3 ?side4 ?side5 ?side6 ?side7 ?side8 A16.out).mono ?_); (case side1 => repeat (first | exact (Kd.C_below HR0_0.out HB.out) | (with_reducible refine Kd.C_alloc ?_ _) | (with_reducible refine Kd.C_drewN ?_ _) | (with_reducible refine Kd.C_drew ?_))); (case side2 => exact HC0_0.out); (case side3 => repeat (first | exact (Kd.C_below HR0_1.out HB.out) | (with_reducible refine Kd.C_alloc ?_ _) | (with_reducible refine Kd.C_drewN ?_ _) | (with_reducible refine Kd.C_drew ?_))); (case side4 => exact HC0_1.out); (case side5 => repeat (first | exact (Kd.C_below HR0_2.out HB.out) | (with_reducible refine Kd.C_alloc ?_ _) | (with_reducible refine Kd.C_drewN ?_ _) | (with_reducible refine Kd.C_drew ?_))); (case side6 => exact HC0_2.out); (case side7 => repeat (first | exact (Kd.R_reads' HO_7.out).2.2 | (with_reducible refine Kd.C_alloc ?_ _) | (with_reducible refine Kd.C_drewN ?_ _) | (with_reducible refine Kd.C_drew ?_))); (case side8 => exact (Kd.R_reads' HO_7.out).2.1); rintro e w19 ⟨rfl, hb⟩; refine ⟨_, rfl, ?_⟩; have n0_ := Aside0.mk (Kd.R_below (by (with_reducible repeat (first | apply Kd.R_alloc | apply Kd.R_drewN | apply Kd.R_drew)); exact HO_7.out) hb); have n1_ := Aside0.mk (blk_below (g := gb306) (o := .cells #[.slice A0_0 l0_0.length c0_0, .slice A0_1 l0_1.length c0_1, .slice A0_2 l0_2.length c0_2] 26 (0, 0)) (by (with_reducible repeat (first | refine blk_drewN ?_ _ | refine blk_drew ?_ | refine blk_alloc ?_ _)); exact BK306.out) hb); have n2_ := Aside0.mk (below_step (by repeat (first | (with_reducible first | exact HB.out | apply below_alloc | apply pw_below_drewN | apply below_drew1 | refine below_set ?_ GE306.out) | exact HB.out)) hb); clear HO_7; clear BK306; clear HB; have HO_7 := n0_; have BK306 := n1_; have HB := n2_; clear n0_ n1_ n2_; (try clear hb); (try clear hb2); (try clear hk); (try clear hi)))
          go_ret2
          exact ⟨by first | rfl | (simp [errW_none, errW_some] <;> rfl) | (simp [*, errW_none, errW_some] <;> rfl), by repeat (first | (with_reducible first | exact HB.out | apply below_alloc | apply pw_below_drewN | apply below_drew1 | refine below_set ?_ GE306.out) | exact HB.out)⟩
  · rw [if_neg c5] at H
    have c5b0 : (t308 == 0) = false := beq_eq_false_iff_ne.mpr c5
    have c5b1 : (t308 != 0) = true := bne_iff_ne.mpr c5
    simp only [Option.some.injEq, Prod.mk.injEq] at H
    obtain ⟨rfl, rfl⟩ := H
    go_enter Tryd.func23, Tryd.ntmps23
    try go_wp2_with (first | ((with_reducible refine gate_dst (N := 2) rfl ?_); refine box_event ?hg (N := 2) ?hd (cs := #[.slice A0_0 l0_0.length c0_0, .slice A0_1 l0_1.length c0_1, .slice A0_2 l0_2.length c0_2]) (t := 26) ?hr ?_; (case hd => rfl); (case hg => rfl); (case hr => first | (go_simp; done) | (go_simp; rfl)); intro gb306 hg w20 hbox hb; have n0_ := Aside0.mk (below_step (by repeat (first | (with_reducible first | exact HB.out | apply below_alloc | apply pw_below_drewN | apply below_drew1) | exact HB.out)) hb); have n1_ := Aside0.mk (hbox); have n2_ := Aside0.mk ((by rw [hg]; exact (below_size (by repeat (first | (with_reducible first | exact HB.out | apply below_alloc | apply pw_below_drewN | apply below_drew1) | exact HB.out))) : w.heap.size ≤ gb306)); have n3_ := Aside0.mk ((by rw [hg]; exact (below_size (by repeat (first | (with_reducible first | exact HB.out | apply below_alloc | apply pw_below_drewN | apply below_drew1) | exact HB.out))) : w.heap.size ≤ gb306)); clear HB; have HB := n0_; have BK306 := n1_; have GW306 := n2_; have GE306 := n3_; clear n0_ n1_ n2_ n3_; clear hb hbox hg))
    have n0_ := Aside0.mk (blk_drew BK306.out)
    have n1_ := Aside0.mk (below_drew1 HB.out)
    clear BK306
    clear HB
    have BK306 := n0_
    have HB := n1_
    clear n0_ n1_
    refine start_ (n := 6) (S := fun w' => w'.cell? ⟨gb306, 0, none⟩ = some (.slice A0_0 l0_0.length c0_0) ∧ w'.cell? ⟨gb306, 1, none⟩ = some (.slice A0_1 l0_1.length c0_1) ∧ w'.cell? ⟨gb306, 2, none⟩ = some (.slice A0_2 l0_2.length c0_2)) (ds := []) #[false, false, false, false, false, false] (by kernel_rfl) rfl rfl ⟨(blk_cell BK306.out 0).trans rfl, (blk_cell BK306.out 1).trans rfl, (blk_cell BK306.out 2).trans rfl⟩ (fun hHeld => ?_)
    generalize w20.drew = w21 at BK306 HB hHeld ⊢
    refine pure_ (i := 2) (N := some 11) (v := ?_) (a' := ?_) #[false, false, true, false, false, false] rfl rfl (by kernel_rfl) (fun _ _ _ h => h) (Or.inl ⟨by rfl, ?_⟩) ?_ ?_
    rotate_left
    · intro w'
      go_simp
      with_reducible rfl
    rotate_left
    · simp only [Act.put, List.setIfInBounds_toArray, List.set_cons_zero, List.set_cons_succ, i64_w, i32_w]
      rfl
    refine take_ (i := 0) (N := some 9) (v := ?_) (a' := ?_) #[true, false, true, false, false, false] rfl rfl (by kernel_rfl) (fun _ _ _ h => h) (Or.inl ⟨by rfl, ?_⟩) hHeld ?_ ?_
    rotate_left
    · rintro w' ⟨s0, s1, s2⟩
      go_simp
      with_reducible rfl
    rotate_left
    · simp only [Act.put, List.setIfInBounds_toArray, List.set_cons_zero, List.set_cons_succ, i64_w, i32_w]
      rfl
    refine take_ (i := 1) (N := some 10) (v := ?_) (a' := ?_) #[true, true, true, false, false, false] rfl rfl (by kernel_rfl) (fun _ _ _ h => h) (Or.inl ⟨by rfl, ?_⟩) hHeld ?_ ?_
    rotate_left
    · rintro w' ⟨s0, s1, s2⟩
      go_simp
      with_reducible rfl
    rotate_left
    · simp only [Act.put, List.setIfInBounds_toArray, List.set_cons_zero, List.set_cons_succ, i64_w, i32_w]
      rfl
    refine one_ (i := 3) (N := some 12) #[true, true, true, true, false, false] rfl rfl (by kernel_rfl) (by decide) (fun K hK => ?_)
    refine goes_ Tryd.func53 (by kernel_rfl) rfl #[.agg #[.slice A0_0 l0_0.length c0_0, .slice A0_1 l0_1.length c0_1, .slice A0_2 l0_2.length c0_2], .int .i64 a1] (by rfl) rfl rfl (by (try simp only [List.map_toArray, List.map_cons, List.map_nil]); first | done | rfl | (simp only [List.length_drop, List.length_take]; rfl)) ?_
    with_reducible refine (wishbookref10_isLine.calls _ _ l0_0 _ _ l0_1 _ _ l0_2 a1 t307 _ ?side1 ?side2 ?side3 ?side4 ?side5 ?side6 A3.out).mono ?_
    (case side1 => repeat (first | exact (Kd.C_below HR0_0.out HB.out) | (with_reducible refine Kd.C_alloc ?_ _) | (with_reducible refine Kd.C_drewN ?_ _) | (with_reducible refine Kd.C_drew ?_)))
    (case side2 => exact HC0_0.out)
    (case side3 => repeat (first | exact (Kd.C_below HR0_1.out HB.out) | (with_reducible refine Kd.C_alloc ?_ _) | (with_reducible refine Kd.C_drewN ?_ _) | (with_reducible refine Kd.C_drew ?_)))
    (case side4 => exact HC0_1.out)
    (case side5 => repeat (first | exact (Kd.C_below HR0_2.out HB.out) | (with_reducible refine Kd.C_alloc ?_ _) | (with_reducible refine Kd.C_drewN ?_ _) | (with_reducible refine Kd.C_drew ?_)))
    (case side6 => exact HC0_2.out)
    rintro e w22 ⟨rfl, hb⟩
    refine ⟨_, rfl, ?_⟩
    have n0_ := Aside0.mk (blk_below (g := gb306) (o := .cells #[.slice A0_0 l0_0.length c0_0, .slice A0_1 l0_1.length c0_1, .slice A0_2 l0_2.length c0_2] 26 (0, 0)) (by (with_reducible repeat (first | refine blk_drewN ?_ _ | refine blk_drew ?_ | refine blk_alloc ?_ _)); exact BK306.out) hb)
    have n1_ := Aside0.mk (below_step (by repeat (first | (with_reducible first | exact HB.out | apply below_alloc | apply pw_below_drewN | apply below_drew1 | refine below_set ?_ GE306.out) | exact HB.out)) hb)
    clear BK306
    clear HB
    have BK306 := n0_
    have HB := n1_
    clear n0_ n1_
    (try clear hb)
    (try clear hb2)
    (try clear hk)
    (try clear hi)
    refine hK.out _ _ ⟨(blk_cell BK306.out 0).trans rfl, (blk_cell BK306.out 1).trans rfl, (blk_cell BK306.out 2).trans rfl⟩ (fun hHeld => ?_)
    clear hK K
    refine norm_ (a' := ?_) ?_ ?_
    rotate_left
    · show Act.put _ (some 12) _ = _
      simp only [Act.put, List.setIfInBounds_toArray, List.set_cons_zero, List.set_cons_succ, i64_w, i32_w]
      rfl
    refine one_ (i := 4) (N := some 13) #[true, true, true, true, true, false] rfl rfl (by kernel_rfl) (by decide) (fun K hK => ?_)
    refine goes_ Tryd.func52 (by kernel_rfl) rfl #[.agg #[.slice A0_0 l0_0.length c0_0, .slice A0_1 l0_1.length c0_1, .slice A0_2 l0_2.length c0_2], .bool t307] (by rfl) rfl rfl (by (try simp only [List.map_toArray, List.map_cons, List.map_nil]); first | done | rfl | (simp only [List.length_drop, List.length_take]; rfl)) ?_
    with_reducible refine (wishbookref10_asked.calls _ _ l0_0 _ _ l0_1 _ _ l0_2 t307 t308 _ ?side1 ?side2 ?side3 ?side4 ?side5 ?side6 A4.out).mono ?_
    (case side1 => repeat (first | exact (Kd.C_below HR0_0.out HB.out) | (with_reducible refine Kd.C_alloc ?_ _) | (with_reducible refine Kd.C_drewN ?_ _) | (with_reducible refine Kd.C_drew ?_)))
    (case side2 => exact HC0_0.out)
    (case side3 => repeat (first | exact (Kd.C_below HR0_1.out HB.out) | (with_reducible refine Kd.C_alloc ?_ _) | (with_reducible refine Kd.C_drewN ?_ _) | (with_reducible refine Kd.C_drew ?_)))
    (case side4 => exact HC0_1.out)
    (case side5 => repeat (first | exact (Kd.C_below HR0_2.out HB.out) | (with_reducible refine Kd.C_alloc ?_ _) | (with_reducible refine Kd.C_drewN ?_ _) | (with_reducible refine Kd.C_drew ?_)))
    (case side6 => exact HC0_2.out)
    rintro e w23 ⟨rfl, hb⟩
    refine ⟨_, rfl, ?_⟩
    have n0_ := Aside0.mk (blk_below (g := gb306) (o := .cells #[.slice A0_0 l0_0.length c0_0, .slice A0_1 l0_1.length c0_1, .slice A0_2 l0_2.length c0_2] 26 (0, 0)) (by (with_reducible repeat (first | refine blk_drewN ?_ _ | refine blk_drew ?_ | refine blk_alloc ?_ _)); exact BK306.out) hb)
    have n1_ := Aside0.mk (below_step (by repeat (first | (with_reducible first | exact HB.out | apply below_alloc | apply pw_below_drewN | apply below_drew1 | refine below_set ?_ GE306.out) | exact HB.out)) hb)
    clear BK306
    clear HB
    have BK306 := n0_
    have HB := n1_
    clear n0_ n1_
    (try clear hb)
    (try clear hb2)
    (try clear hk)
    (try clear hi)
    refine hK.out _ _ ⟨(blk_cell BK306.out 0).trans rfl, (blk_cell BK306.out 1).trans rfl, (blk_cell BK306.out 2).trans rfl⟩ (fun hHeld => ?_)
    clear hK K
    refine norm_ (a' := ?_) ?_ ?_
    rotate_left
    · show Act.put _ (some 13) _ = _
      simp only [Act.put, List.setIfInBounds_toArray, List.set_cons_zero, List.set_cons_succ, i64_w, i32_w]
      rfl
    refine pure_ (i := 5) (N := some 6) (v := ?_) (a' := ?_) #[true, true, true, true, true, true] rfl rfl (by kernel_rfl) (fun _ _ _ h => h) (Or.inl ⟨by rfl, ?_⟩) ?_ ?_
    rotate_left
    · intro w'
      go_simp
      with_reducible rfl
    rotate_left
    · simp only [Act.put, List.setIfInBounds_toArray, List.set_cons_zero, List.set_cons_succ, i64_w, i32_w]
      rfl
    refine done_ (by kernel_rfl) ?_
    try go_wp2
    go_ret2
    exact ⟨by first | rfl | (simp [errW_none, errW_some] <;> rfl) | (simp [*, errW_none, errW_some] <;> rfl), by repeat (first | (with_reducible first | exact HB.out | apply below_alloc | apply pw_below_drewN | apply below_drew1 | refine below_set ?_ GE306.out) | exact HB.out)⟩
def wishbooklaw10_LackComes.j0 : Nat → Int → Bool → List Int → List (S47) → List (S57) → Option (Bool)
  | 0, _, _, _, _, _ => none
  | k + 1, x1, x32, x317000, x317001, x317002 => if x32 = true then (some false) else ((lack_Last.f x317000 x317001 x317002 x1).bind fun bt321 => ((wishbookref10_Last.f k x317000 x317001 x317002 x1).bind fun bt323 => (if bt321.1 = bt323.1 then (if bt321.2 = bt323.2 then ((wishbooklaw10_listed.f).bind fun t325 => (some t325)) else (some false)) else (some false))))
def wishbooklaw10_LackComes.f (k : Nat) (l0_0 : List Int) (l0_1 : List (S47)) (l0_2 : List (S57)) (a1 : Int) (l2 : List (S59)) : Option (Bool) := (lack_Come.f l0_0 l0_1 l0_2 a1 l2).bind fun bt317 => ((wishbookref10_Come.f k l0_0 l0_1 l0_2 a1 l2).bind fun bt319 => (if bt317.1 = bt319.1 then (wishbooklaw10_LackComes.j0 k a1 (bt317.2 != bt319.2) l0_0 l0_1 l0_2) else (wishbooklaw10_LackComes.j0 k a1 true l0_0 l0_1 l0_2)))
theorem wishbooklaw10_LackComes.mono_l : ∀ k, (∀ y0 y1 y2 y3 y4, LeO (wishbooklaw10_LackComes.j0 k y0 y1 y2 y3 y4) (wishbooklaw10_LackComes.j0 (k + 1) y0 y1 y2 y3 y4))
  | 0 => fun _ _ _ _ _ r h => by simp [wishbooklaw10_LackComes.j0] at h
  | k + 1 => by
    have ih0 := wishbooklaw10_LackComes.mono_l k
    · intro y0 y1 y2 y3 y4
      unfold wishbooklaw10_LackComes.j0
      repeat' first
      | (with_reducible exact ih0 _ _ _ _ _)
      | (with_reducible exact wishbookref10_Come.mono _ _ _ _ _ _)
      | (with_reducible exact wishbookref10_Last.mono _ _ _ _ _)
      | (with_reducible exact LeO.refl _)
      | (with_reducible exact LeO.none _)
      | (with_reducible refine LeO.ite ?_ ?_)
      | (with_reducible refine LeO.bind ?_ (fun _ => ?_))
      | exact ih0 _ _ _ _ _
      | exact wishbookref10_Come.mono _ _ _ _ _ _
      | exact wishbookref10_Last.mono _ _ _ _ _
      | exact LeO.none _
      | refine LeO.ite ?_ ?_
      | refine LeO.bind ?_ (fun _ => ?_)
theorem wishbooklaw10_LackComes.mono : ∀ a0 a1 a2 a3 a4 k, LeO (wishbooklaw10_LackComes.f k a0 a1 a2 a3 a4) (wishbooklaw10_LackComes.f (k + 1) a0 a1 a2 a3 a4) := by
  intro a0 a1 a2 a3 a4 k
  have ih0 := wishbooklaw10_LackComes.mono_l k
  unfold wishbooklaw10_LackComes.f
  repeat' first
      | (with_reducible exact ih0 _ _ _ _ _)
      | (with_reducible exact wishbookref10_Come.mono _ _ _ _ _ _)
      | (with_reducible exact wishbookref10_Last.mono _ _ _ _ _)
      | (with_reducible exact LeO.refl _)
      | (with_reducible exact LeO.none _)
      | (with_reducible refine LeO.ite ?_ ?_)
      | (with_reducible refine LeO.bind ?_ (fun _ => ?_))
      | exact ih0 _ _ _ _ _
      | exact wishbookref10_Come.mono _ _ _ _ _ _
      | exact wishbookref10_Last.mono _ _ _ _ _
      | exact LeO.none _
      | refine LeO.ite ?_ ?_
      | refine LeO.bind ?_ (fun _ => ?_)
set_option maxHeartbeats 8000000 in
set_option maxRecDepth 100000 in
theorem wishbooklaw10_LackComes.calls (k : Nat) (A0_0 : Option Addr) (c0_0 : Nat) (l0_0 : List Int) (A0_1 : Option Addr) (c0_1 : Nat) (l0_1 : List (S47)) (A0_2 : Option Addr) (c0_2 : Nat) (l0_2 : List (S57)) (a1 : Int) (A2 : Option Addr) (c2 : Nat) (l2 : List (S59)) (r : Bool) (w : World) (hr0_0 : Kd.C (Kd.int .i64) w A0_0 l0_0.length l0_0) (hc0_0 : l0_0.length ≤ c0_0) (hr0_1 : Kd.C k47 w A0_1 l0_1.length l0_1) (hc0_1 : l0_1.length ≤ c0_1) (hr0_2 : Kd.C k57 w A0_2 l0_2.length l0_2) (hc0_2 : l0_2.length ≤ c0_2) (hr2 : Kd.C k59 w A2 l2.length l2) (hc2 : l2.length ≤ c2) (hfa : Fates w) (h : wishbooklaw10_LackComes.f k l0_0 l0_1 l0_2 a1 l2 = some r) :
    Calls Tryd.prog 4 #[.agg #[.slice A0_0 l0_0.length c0_0, .slice A0_1 l0_1.length c0_1, .slice A0_2 l0_2.length c0_2], .int .i64 a1, .slice A2 l2.length c2] w fun e w' => e = .returned (.bool r) ∧ Below w.heap.size w w' := by
  have HFA := Aside0.mk hfa
  clear hfa
  have hu26 := Tryd.underlying26
  have HR0_0 := Aside0.mk hr0_0
  have HC0_0 := Aside0.mk hc0_0
  clear hr0_0 hc0_0
  have HR0_1 := Aside0.mk hr0_1
  have HC0_1 := Aside0.mk hc0_1
  clear hr0_1 hc0_1
  have HR0_2 := Aside0.mk hr0_2
  have HC0_2 := Aside0.mk hc0_2
  clear hr0_2 hc0_2
  have HR2 := Aside0.mk hr2
  have HC2 := Aside0.mk hc2
  clear hr2 hc2
  have HB := Aside0.mk (Below.refl w.heap.size w)
  have H : ((lack_Come.f l0_0 l0_1 l0_2 a1 l2).bind fun bt317 => ((wishbookref10_Come.f k l0_0 l0_1 l0_2 a1 l2).bind fun bt319 => (if bt317.1 = bt319.1 then (wishbooklaw10_LackComes.j0 k a1 (bt317.2 != bt319.2) l0_0 l0_1 l0_2) else (wishbooklaw10_LackComes.j0 k a1 true l0_0 l0_1 l0_2)))) = some r := h
  clear h
  replace H := Option.bind_eq_some_iff.mp H
  obtain ⟨⟨t317, t318⟩, A40, H⟩ := H
  replace H : ((wishbookref10_Come.f k l0_0 l0_1 l0_2 a1 l2).bind fun bt319 => (if t317 = bt319.1 then (wishbooklaw10_LackComes.j0 k a1 (t318 != bt319.2) l0_0 l0_1 l0_2) else (wishbooklaw10_LackComes.j0 k a1 true l0_0 l0_1 l0_2))) = some r := H
  have A4 := Aside0.mk A40
  clear A40
  replace H := Option.bind_eq_some_iff.mp H
  obtain ⟨⟨t319, t320⟩, A50, H⟩ := H
  replace H : (if t317 = t319 then (wishbooklaw10_LackComes.j0 k a1 (t318 != t320) l0_0 l0_1 l0_2) else (wishbooklaw10_LackComes.j0 k a1 true l0_0 l0_1 l0_2)) = some r := H
  have A5 := Aside0.mk A50
  clear A50
  have HC6 := Aside0.mk H
  clear H
  go_enter Tryd.func4, Tryd.ntmps4
  go_upto_region 3 with (first | ((with_reducible refine gate_dst (N := 3) rfl ?_); refine box_event ?hg (N := 3) ?hd (cs := #[.slice A0_0 l0_0.length c0_0, .slice A0_1 l0_1.length c0_1, .slice A0_2 l0_2.length c0_2]) (t := 26) ?hr ?_; (case hd => rfl); (case hg => rfl); (case hr => first | (go_simp; done) | (go_simp; rfl)); intro gb316 hg w7 hbox hb; have n0_ := Aside0.mk (below_step (by repeat (first | (with_reducible first | exact HB.out | apply below_alloc | apply pw_below_drewN | apply below_drew1) | exact HB.out)) hb); have n1_ := Aside0.mk (hbox); have n2_ := Aside0.mk ((by rw [hg]; exact (below_size (by repeat (first | (with_reducible first | exact HB.out | apply below_alloc | apply pw_below_drewN | apply below_drew1) | exact HB.out))) : w.heap.size ≤ gb316)); have n3_ := Aside0.mk ((by rw [hg]; exact (below_size (by repeat (first | (with_reducible first | exact HB.out | apply below_alloc | apply pw_below_drewN | apply below_drew1) | exact HB.out))) : w.heap.size ≤ gb316)); clear HB; have HB := n0_; have BK316 := n1_; have GW316 := n2_; have GE316 := n3_; clear n0_ n1_ n2_ n3_; clear hb hbox hg; have hcz8_0 : w7.cell? ⟨gb316, 0, none⟩ = some (.slice A0_0 l0_0.length c0_0) := (blk_cell BK316.out 0).trans rfl; have hcz8_1 : w7.cell? ⟨gb316, 1, none⟩ = some (.slice A0_1 l0_1.length c0_1) := (blk_cell BK316.out 1).trans rfl; have hcz8_2 : w7.cell? ⟨gb316, 2, none⟩ = some (.slice A0_2 l0_2.length c0_2) := (blk_cell BK316.out 2).trans rfl; have hfz8_0 := blk_frozen BK316.out 0; have hfz8_1 := blk_frozen BK316.out 1; have hfz8_2 := blk_frozen BK316.out 2) | ((with_reducible refine gate_callee (f := 20) rfl ?_); refine goesL_ (some 15) rfl rfl Tryd.func20 (by kernel_rfl) rfl #[.agg #[.slice A0_0 l0_0.length c0_0, .slice A0_1 l0_1.length c0_1, .slice A0_2 l0_2.length c0_2], .int .i64 a1, .slice A2 l2.length c2] rfl (by (try simp only [List.map_toArray, List.map_cons, List.map_nil]); first | done | rfl | (simp only [List.length_drop, List.length_take]; rfl)) ?_; (with_reducible refine (lack_Come.calls _ _ l0_0 _ _ l0_1 _ _ l0_2 a1 _ _ l2 t317 t318 _ ?side1 ?side2 ?side3 ?side4 ?side5 ?side6 ?side7 ?side8 ?sideF A4.out).mono ?_); (case side1 => repeat (first | exact (Kd.C_below HR0_0.out HB.out) | (with_reducible refine Kd.C_alloc ?_ _) | (with_reducible refine Kd.C_drewN ?_ _) | (with_reducible refine Kd.C_drew ?_))); (case side2 => exact HC0_0.out); (case side3 => repeat (first | exact (Kd.C_below HR0_1.out HB.out) | (with_reducible refine Kd.C_alloc ?_ _) | (with_reducible refine Kd.C_drewN ?_ _) | (with_reducible refine Kd.C_drew ?_))); (case side4 => exact HC0_1.out); (case side5 => repeat (first | exact (Kd.C_below HR0_2.out HB.out) | (with_reducible refine Kd.C_alloc ?_ _) | (with_reducible refine Kd.C_drewN ?_ _) | (with_reducible refine Kd.C_drew ?_))); (case side6 => exact HC0_2.out); (case side7 => repeat (first | exact (Kd.C_below HR2.out HB.out) | (with_reducible refine Kd.C_alloc ?_ _) | (with_reducible refine Kd.C_drewN ?_ _) | (with_reducible refine Kd.C_drew ?_))); (case side8 => exact HC2.out); (case sideF => exact Fates.below HFA.out (by repeat (first | (with_reducible first | exact HB.out | apply below_alloc | apply pw_below_drewN | apply below_drew1 | refine below_set ?_ GE316.out) | exact HB.out))); rintro e w9 ⟨rfl, hb⟩; refine ⟨_, rfl, ?_⟩; have n0_ := Aside0.mk (blk_below (g := gb316) (o := .cells #[.slice A0_0 l0_0.length c0_0, .slice A0_1 l0_1.length c0_1, .slice A0_2 l0_2.length c0_2] 26 (0, 0)) (by (with_reducible repeat (first | refine blk_drewN ?_ _ | refine blk_drew ?_ | refine blk_alloc ?_ _)); exact BK316.out) hb); have n1_ := Aside0.mk (below_step (by repeat (first | (with_reducible first | exact HB.out | apply below_alloc | apply pw_below_drewN | apply below_drew1 | refine below_set ?_ GE316.out) | exact HB.out)) hb); clear BK316; clear HB; have BK316 := n0_; have HB := n1_; clear n0_ n1_; (try clear hb); (try clear hb2); (try clear hk); (try clear hi); have hcz10_0 : w9.cell? ⟨gb316, 0, none⟩ = some (.slice A0_0 l0_0.length c0_0) := (blk_cell BK316.out 0).trans rfl; have hcz10_1 : w9.cell? ⟨gb316, 1, none⟩ = some (.slice A0_1 l0_1.length c0_1) := (blk_cell BK316.out 1).trans rfl; have hcz10_2 : w9.cell? ⟨gb316, 2, none⟩ = some (.slice A0_2 l0_2.length c0_2) := (blk_cell BK316.out 2).trans rfl; have hfz10_0 := blk_frozen BK316.out 0; have hfz10_1 := blk_frozen BK316.out 1; have hfz10_2 := blk_frozen BK316.out 2) | ((with_reducible refine gate_callee (f := 21) rfl ?_); refine goesL_ (some 22) rfl rfl Tryd.func21 (by kernel_rfl) rfl #[.agg #[.slice A0_0 l0_0.length c0_0, .slice A0_1 l0_1.length c0_1, .slice A0_2 l0_2.length c0_2], .int .i64 a1, .slice A2 l2.length c2] rfl (by (try simp only [List.map_toArray, List.map_cons, List.map_nil]); first | done | rfl | (simp only [List.length_drop, List.length_take]; rfl)) ?_; (with_reducible refine (wishbookref10_Come.calls k _ _ l0_0 _ _ l0_1 _ _ l0_2 a1 _ _ l2 t319 t320 _ ?side1 ?side2 ?side3 ?side4 ?side5 ?side6 ?side7 ?side8 A5.out).mono ?_); (case side1 => repeat (first | exact (Kd.C_below HR0_0.out HB.out) | (with_reducible refine Kd.C_alloc ?_ _) | (with_reducible refine Kd.C_drewN ?_ _) | (with_reducible refine Kd.C_drew ?_))); (case side2 => exact HC0_0.out); (case side3 => repeat (first | exact (Kd.C_below HR0_1.out HB.out) | (with_reducible refine Kd.C_alloc ?_ _) | (with_reducible refine Kd.C_drewN ?_ _) | (with_reducible refine Kd.C_drew ?_))); (case side4 => exact HC0_1.out); (case side5 => repeat (first | exact (Kd.C_below HR0_2.out HB.out) | (with_reducible refine Kd.C_alloc ?_ _) | (with_reducible refine Kd.C_drewN ?_ _) | (with_reducible refine Kd.C_drew ?_))); (case side6 => exact HC0_2.out); (case side7 => repeat (first | exact (Kd.C_below HR2.out HB.out) | (with_reducible refine Kd.C_alloc ?_ _) | (with_reducible refine Kd.C_drewN ?_ _) | (with_reducible refine Kd.C_drew ?_))); (case side8 => exact HC2.out); rintro e w11 ⟨rfl, hb⟩; refine ⟨_, rfl, ?_⟩; have n0_ := Aside0.mk (blk_below (g := gb316) (o := .cells #[.slice A0_0 l0_0.length c0_0, .slice A0_1 l0_1.length c0_1, .slice A0_2 l0_2.length c0_2] 26 (0, 0)) (by (with_reducible repeat (first | refine blk_drewN ?_ _ | refine blk_drew ?_ | refine blk_alloc ?_ _)); exact BK316.out) hb); have n1_ := Aside0.mk (below_step (by repeat (first | (with_reducible first | exact HB.out | apply below_alloc | apply pw_below_drewN | apply below_drew1 | refine below_set ?_ GE316.out) | exact HB.out)) hb); clear BK316; clear HB; have BK316 := n0_; have HB := n1_; clear n0_ n1_; (try clear hb); (try clear hb2); (try clear hk); (try clear hi)))
  (try simp only [Act.put, List.setIfInBounds_toArray, List.set_cons_zero, List.set_cons_succ])
  go_cut [32] (fun v32 wc => ∃ (kq : Nat) (x32_5 : Bool), v32 = .bool x32_5 ∧ Aside0 (wishbooklaw10_LackComes.j0 kq a1 x32_5 l0_0 l0_1 l0_2 = some r) ∧ Aside0 (kq ≤ k) ∧ Aside0 (wc.heap[gb316]? = some (.cells #[(.slice A0_0 l0_0.length c0_0), (.slice A0_1 l0_1.length c0_1), (.slice A0_2 l0_2.length c0_2)] 26 (0, 0))) ∧ Aside0 (Below w.heap.size w wc))
  case first =>
    have H := HC6.out
    clear HC6
    by_cases c12 : t317 = t319
    · rw [if_pos c12] at H
      have c12b0 : (t317 == t319) = true := beq_iff_eq.mpr c12
      have c12b1 : (t317 != t319) = false := bne_eq_false_iff_eq.mpr c12
      clear c12
      (first | rw [c12b0] | (simp only [i64_w, i32_w]; rw [c12b0]) | skip)
      have H' := Aside0.mk H
      clear H
      go_wp2
      go_meet
      case rel => exact ⟨_, ((t318 != t320)), (by first | rfl | (simp; done) | (simp [*]; done)), H', ⟨by first | omega | exact Nat.le_refl _⟩, ⟨by (with_reducible repeat (first | refine blk_drewN ?_ _ | refine blk_drew ?_ | refine blk_alloc ?_ _)); exact BK316.out⟩, ⟨by repeat (first | (with_reducible first | exact HB.out | apply below_alloc | apply pw_below_drewN | apply below_drew1 | refine below_set ?_ GE316.out) | exact HB.out)⟩⟩
    · rw [if_neg c12] at H
      have c12b0 : (t317 == t319) = false := beq_eq_false_iff_ne.mpr c12
      have c12b1 : (t317 != t319) = true := bne_iff_ne.mpr c12
      (first | rw [c12b0] | (simp only [i64_w, i32_w]; rw [c12b0]) | skip)
      have H' := Aside0.mk H
      clear H
      go_wp2
      go_meet
      case rel => exact ⟨_, (true), (by first | rfl | (simp; done) | (simp [*]; done)), H', ⟨by first | omega | exact Nat.le_refl _⟩, ⟨by (with_reducible repeat (first | refine blk_drewN ?_ _ | refine blk_drew ?_ | refine blk_alloc ?_ _)); exact BK316.out⟩, ⟨by repeat (first | (with_reducible first | exact HB.out | apply below_alloc | apply pw_below_drewN | apply below_drew1 | refine below_set ?_ GE316.out) | exact HB.out)⟩⟩
  case rest =>
    clear HC6
    try clear c1
    try clear c2
    try clear p2
    try clear c4
    try clear c12
    try clear c12b0
    try clear c12b1
    try clear hcz10_0
    try clear hcz10_1
    try clear hcz10_2
    try clear hcz8_0
    try clear hcz8_1
    try clear hcz8_2
    try clear hfz10_0
    try clear hfz10_1
    try clear hfz10_2
    try clear hfz8_0
    try clear hfz8_1
    try clear hfz8_2
    obtain ⟨kq, x32_5, rfl, HA, HJ5, BK316, HB⟩ := hcut
    cases kq with
    | zero => exact absurd HA.out (by simp [wishbooklaw10_LackComes.j0])
    | succ kj5 =>
      have H := HA.out
      clear HA
      simp only [wishbooklaw10_LackComes.j0] at H
      by_cases c13 : x32_5 = true
      · subst c13
        have H1 : (some false) = some r := by rw [if_pos rfl] at H; exact H
        clear H
        have H := H1
        clear H1
        obtain rfl := Option.some.inj H
        go_wp2
        go_ret
        exact ⟨by first | rfl | (simp [errW_none, errW_some] <;> rfl) | (simp [*, errW_none, errW_some] <;> rfl), by repeat (first | (with_reducible first | exact HB.out | apply below_alloc | apply pw_below_drewN | apply below_drew1 | refine below_set ?_ GE316.out) | exact HB.out)⟩
      · replace c13 := Bool.eq_false_iff.mpr c13
        subst c13
        have H1 : ((lack_Last.f l0_0 l0_1 l0_2 a1).bind fun bt321 => ((wishbookref10_Last.f kj5 l0_0 l0_1 l0_2 a1).bind fun bt323 => (if bt321.1 = bt323.1 then (if bt321.2 = bt323.2 then ((wishbooklaw10_listed.f).bind fun t325 => (some t325)) else (some false)) else (some false)))) = some r := by rw [if_neg (show ¬ (false = true) by decide)] at H; exact H
        clear H
        have H := H1
        clear H1
        replace H := Option.bind_eq_some_iff.mp H
        obtain ⟨⟨t321, t322⟩, A140, H⟩ := H
        replace H : ((wishbookref10_Last.f kj5 l0_0 l0_1 l0_2 a1).bind fun bt323 => (if t321 = bt323.1 then (if t322 = bt323.2 then ((wishbooklaw10_listed.f).bind fun t325 => (some t325)) else (some false)) else (some false))) = some r := H
        have A14 := Aside0.mk A140
        clear A140
        replace H := Option.bind_eq_some_iff.mp H
        obtain ⟨⟨t323, t324⟩, A150, H⟩ := H
        replace H : (if t321 = t323 then (if t322 = t324 then ((wishbooklaw10_listed.f).bind fun t325 => (some t325)) else (some false)) else (some false)) = some r := H
        have A15 := Aside0.mk A150
        clear A150
        by_cases c16 : t321 = t323
        · rw [if_pos c16] at H
          have c16b0 : (t321 == t323) = true := beq_iff_eq.mpr c16
          have c16b1 : (t321 != t323) = false := bne_eq_false_iff_eq.mpr c16
          clear c16
          by_cases c17 : t322 = t324
          · rw [if_pos c17] at H
            have c17b0 : (t322 == t324) = true := beq_iff_eq.mpr c17
            have c17b1 : (t322 != t324) = false := bne_eq_false_iff_eq.mpr c17
            clear c17
            replace H := Option.bind_eq_some_iff.mp H
            obtain ⟨t325, A180, H⟩ := H
            replace H : (some t325) = some r := H
            have A18 := Aside0.mk A180
            clear A180
            obtain rfl := Option.some.inj H
            have hcz19_0 : wc.cell? ⟨gb316, 0, none⟩ = some (.slice A0_0 l0_0.length c0_0) := (blk_cell BK316.out 0).trans rfl
            have hcz19_1 : wc.cell? ⟨gb316, 1, none⟩ = some (.slice A0_1 l0_1.length c0_1) := (blk_cell BK316.out 1).trans rfl
            have hcz19_2 : wc.cell? ⟨gb316, 2, none⟩ = some (.slice A0_2 l0_2.length c0_2) := (blk_cell BK316.out 2).trans rfl
            have hfz19_0 := blk_frozen BK316.out 0
            have hfz19_1 := blk_frozen BK316.out 1
            have hfz19_2 := blk_frozen BK316.out 2
            go_wp2_with (first | ((with_reducible refine gate_callee (f := 22) rfl ?_); refine goesL_ (some 36) rfl rfl Tryd.func22 (by kernel_rfl) rfl #[.agg #[.slice A0_0 l0_0.length c0_0, .slice A0_1 l0_1.length c0_1, .slice A0_2 l0_2.length c0_2], .int .i64 a1] rfl (by (try simp only [List.map_toArray, List.map_cons, List.map_nil]); first | done | rfl | (simp only [List.length_drop, List.length_take]; rfl)) ?_; (with_reducible refine (lack_Last.calls _ _ l0_0 _ _ l0_1 _ _ l0_2 a1 t321 t322 _ ?side1 ?side2 ?side3 ?side4 ?side5 ?side6 ?sideF A14.out).mono ?_); (case side1 => repeat (first | exact (Kd.C_below HR0_0.out HB.out) | (with_reducible refine Kd.C_alloc ?_ _) | (with_reducible refine Kd.C_drewN ?_ _) | (with_reducible refine Kd.C_drew ?_))); (case side2 => exact HC0_0.out); (case side3 => repeat (first | exact (Kd.C_below HR0_1.out HB.out) | (with_reducible refine Kd.C_alloc ?_ _) | (with_reducible refine Kd.C_drewN ?_ _) | (with_reducible refine Kd.C_drew ?_))); (case side4 => exact HC0_1.out); (case side5 => repeat (first | exact (Kd.C_below HR0_2.out HB.out) | (with_reducible refine Kd.C_alloc ?_ _) | (with_reducible refine Kd.C_drewN ?_ _) | (with_reducible refine Kd.C_drew ?_))); (case side6 => exact HC0_2.out); (case sideF => exact Fates.below HFA.out (by repeat (first | (with_reducible first | exact HB.out | apply below_alloc | apply pw_below_drewN | apply below_drew1 | refine below_set ?_ GE316.out) | exact HB.out))); rintro e w20 ⟨rfl, hb⟩; refine ⟨_, rfl, ?_⟩; have n0_ := Aside0.mk (blk_below (g := gb316) (o := .cells #[.slice A0_0 l0_0.length c0_0, .slice A0_1 l0_1.length c0_1, .slice A0_2 l0_2.length c0_2] 26 (0, 0)) (by (with_reducible repeat (first | refine blk_drewN ?_ _ | refine blk_drew ?_ | refine blk_alloc ?_ _)); exact BK316.out) hb); have n1_ := Aside0.mk (below_step (by repeat (first | (with_reducible first | exact HB.out | apply below_alloc | apply pw_below_drewN | apply below_drew1 | refine below_set ?_ GE316.out) | exact HB.out)) hb); clear BK316; clear HB; have BK316 := n0_; have HB := n1_; clear n0_ n1_; (try clear hb); (try clear hb2); (try clear hk); (try clear hi); have hcz21_0 : w20.cell? ⟨gb316, 0, none⟩ = some (.slice A0_0 l0_0.length c0_0) := (blk_cell BK316.out 0).trans rfl; have hcz21_1 : w20.cell? ⟨gb316, 1, none⟩ = some (.slice A0_1 l0_1.length c0_1) := (blk_cell BK316.out 1).trans rfl; have hcz21_2 : w20.cell? ⟨gb316, 2, none⟩ = some (.slice A0_2 l0_2.length c0_2) := (blk_cell BK316.out 2).trans rfl; have hfz21_0 := blk_frozen BK316.out 0; have hfz21_1 := blk_frozen BK316.out 1; have hfz21_2 := blk_frozen BK316.out 2) | ((with_reducible refine gate_callee (f := 23) rfl ?_); refine goesL_ (some 42) rfl rfl Tryd.func23 (by kernel_rfl) rfl #[.agg #[.slice A0_0 l0_0.length c0_0, .slice A0_1 l0_1.length c0_1, .slice A0_2 l0_2.length c0_2], .int .i64 a1] rfl (by (try simp only [List.map_toArray, List.map_cons, List.map_nil]); first | done | rfl | (simp only [List.length_drop, List.length_take]; rfl)) ?_; (with_reducible refine (wishbookref10_Last.calls kj5 _ _ l0_0 _ _ l0_1 _ _ l0_2 a1 t323 t324 _ ?side1 ?side2 ?side3 ?side4 ?side5 ?side6 A15.out).mono ?_); (case side1 => repeat (first | exact (Kd.C_below HR0_0.out HB.out) | (with_reducible refine Kd.C_alloc ?_ _) | (with_reducible refine Kd.C_drewN ?_ _) | (with_reducible refine Kd.C_drew ?_))); (case side2 => exact HC0_0.out); (case side3 => repeat (first | exact (Kd.C_below HR0_1.out HB.out) | (with_reducible refine Kd.C_alloc ?_ _) | (with_reducible refine Kd.C_drewN ?_ _) | (with_reducible refine Kd.C_drew ?_))); (case side4 => exact HC0_1.out); (case side5 => repeat (first | exact (Kd.C_below HR0_2.out HB.out) | (with_reducible refine Kd.C_alloc ?_ _) | (with_reducible refine Kd.C_drewN ?_ _) | (with_reducible refine Kd.C_drew ?_))); (case side6 => exact HC0_2.out); rintro e w22 ⟨rfl, hb⟩; refine ⟨_, rfl, ?_⟩; have n0_ := Aside0.mk (blk_below (g := gb316) (o := .cells #[.slice A0_0 l0_0.length c0_0, .slice A0_1 l0_1.length c0_1, .slice A0_2 l0_2.length c0_2] 26 (0, 0)) (by (with_reducible repeat (first | refine blk_drewN ?_ _ | refine blk_drew ?_ | refine blk_alloc ?_ _)); exact BK316.out) hb); have n1_ := Aside0.mk (below_step (by repeat (first | (with_reducible first | exact HB.out | apply below_alloc | apply pw_below_drewN | apply below_drew1 | refine below_set ?_ GE316.out) | exact HB.out)) hb); clear BK316; clear HB; have BK316 := n0_; have HB := n1_; clear n0_ n1_; (try clear hb); (try clear hb2); (try clear hk); (try clear hi)) | (go_at_call 19; (with_reducible refine (wishbooklaw10_listed.calls  t325 _ ?sideF A18.out).mono ?_); (case sideF => exact Fates.below HFA.out (by repeat (first | (with_reducible first | exact HB.out | apply below_alloc | apply pw_below_drewN | apply below_drew1 | refine below_set ?_ GE316.out) | exact HB.out))); rintro e w23 ⟨rfl, hb⟩; have n0_ := Aside0.mk (blk_below (g := gb316) (o := .cells #[.slice A0_0 l0_0.length c0_0, .slice A0_1 l0_1.length c0_1, .slice A0_2 l0_2.length c0_2] 26 (0, 0)) (by (with_reducible repeat (first | refine blk_drewN ?_ _ | refine blk_drew ?_ | refine blk_alloc ?_ _)); exact BK316.out) hb); have n1_ := Aside0.mk (below_step (by repeat (first | (with_reducible first | exact HB.out | apply below_alloc | apply pw_below_drewN | apply below_drew1 | refine below_set ?_ GE316.out) | exact HB.out)) hb); clear BK316; clear HB; have BK316 := n0_; have HB := n1_; clear n0_ n1_; (try clear hb); (try clear hb2); (try clear hk); (try clear hi)))
            go_ret
            exact ⟨by first | rfl | (simp [errW_none, errW_some] <;> rfl) | (simp [*, errW_none, errW_some] <;> rfl), by repeat (first | (with_reducible first | exact HB.out | apply below_alloc | apply pw_below_drewN | apply below_drew1 | refine below_set ?_ GE316.out) | exact HB.out)⟩
          · rw [if_neg c17] at H
            have c17b0 : (t322 == t324) = false := beq_eq_false_iff_ne.mpr c17
            have c17b1 : (t322 != t324) = true := bne_iff_ne.mpr c17
            obtain rfl := Option.some.inj H
            have hcz24_0 : wc.cell? ⟨gb316, 0, none⟩ = some (.slice A0_0 l0_0.length c0_0) := (blk_cell BK316.out 0).trans rfl
            have hcz24_1 : wc.cell? ⟨gb316, 1, none⟩ = some (.slice A0_1 l0_1.length c0_1) := (blk_cell BK316.out 1).trans rfl
            have hcz24_2 : wc.cell? ⟨gb316, 2, none⟩ = some (.slice A0_2 l0_2.length c0_2) := (blk_cell BK316.out 2).trans rfl
            have hfz24_0 := blk_frozen BK316.out 0
            have hfz24_1 := blk_frozen BK316.out 1
            have hfz24_2 := blk_frozen BK316.out 2
            go_wp2_with (first | ((with_reducible refine gate_callee (f := 22) rfl ?_); refine goesL_ (some 36) rfl rfl Tryd.func22 (by kernel_rfl) rfl #[.agg #[.slice A0_0 l0_0.length c0_0, .slice A0_1 l0_1.length c0_1, .slice A0_2 l0_2.length c0_2], .int .i64 a1] rfl (by (try simp only [List.map_toArray, List.map_cons, List.map_nil]); first | done | rfl | (simp only [List.length_drop, List.length_take]; rfl)) ?_; (with_reducible refine (lack_Last.calls _ _ l0_0 _ _ l0_1 _ _ l0_2 a1 t321 t322 _ ?side1 ?side2 ?side3 ?side4 ?side5 ?side6 ?sideF A14.out).mono ?_); (case side1 => repeat (first | exact (Kd.C_below HR0_0.out HB.out) | (with_reducible refine Kd.C_alloc ?_ _) | (with_reducible refine Kd.C_drewN ?_ _) | (with_reducible refine Kd.C_drew ?_))); (case side2 => exact HC0_0.out); (case side3 => repeat (first | exact (Kd.C_below HR0_1.out HB.out) | (with_reducible refine Kd.C_alloc ?_ _) | (with_reducible refine Kd.C_drewN ?_ _) | (with_reducible refine Kd.C_drew ?_))); (case side4 => exact HC0_1.out); (case side5 => repeat (first | exact (Kd.C_below HR0_2.out HB.out) | (with_reducible refine Kd.C_alloc ?_ _) | (with_reducible refine Kd.C_drewN ?_ _) | (with_reducible refine Kd.C_drew ?_))); (case side6 => exact HC0_2.out); (case sideF => exact Fates.below HFA.out (by repeat (first | (with_reducible first | exact HB.out | apply below_alloc | apply pw_below_drewN | apply below_drew1 | refine below_set ?_ GE316.out) | exact HB.out))); rintro e w25 ⟨rfl, hb⟩; refine ⟨_, rfl, ?_⟩; have n0_ := Aside0.mk (blk_below (g := gb316) (o := .cells #[.slice A0_0 l0_0.length c0_0, .slice A0_1 l0_1.length c0_1, .slice A0_2 l0_2.length c0_2] 26 (0, 0)) (by (with_reducible repeat (first | refine blk_drewN ?_ _ | refine blk_drew ?_ | refine blk_alloc ?_ _)); exact BK316.out) hb); have n1_ := Aside0.mk (below_step (by repeat (first | (with_reducible first | exact HB.out | apply below_alloc | apply pw_below_drewN | apply below_drew1 | refine below_set ?_ GE316.out) | exact HB.out)) hb); clear BK316; clear HB; have BK316 := n0_; have HB := n1_; clear n0_ n1_; (try clear hb); (try clear hb2); (try clear hk); (try clear hi); have hcz26_0 : w25.cell? ⟨gb316, 0, none⟩ = some (.slice A0_0 l0_0.length c0_0) := (blk_cell BK316.out 0).trans rfl; have hcz26_1 : w25.cell? ⟨gb316, 1, none⟩ = some (.slice A0_1 l0_1.length c0_1) := (blk_cell BK316.out 1).trans rfl; have hcz26_2 : w25.cell? ⟨gb316, 2, none⟩ = some (.slice A0_2 l0_2.length c0_2) := (blk_cell BK316.out 2).trans rfl; have hfz26_0 := blk_frozen BK316.out 0; have hfz26_1 := blk_frozen BK316.out 1; have hfz26_2 := blk_frozen BK316.out 2) | ((with_reducible refine gate_callee (f := 23) rfl ?_); refine goesL_ (some 42) rfl rfl Tryd.func23 (by kernel_rfl) rfl #[.agg #[.slice A0_0 l0_0.length c0_0, .slice A0_1 l0_1.length c0_1, .slice A0_2 l0_2.length c0_2], .int .i64 a1] rfl (by (try simp only [List.map_toArray, List.map_cons, List.map_nil]); first | done | rfl | (simp only [List.length_drop, List.length_take]; rfl)) ?_; (with_reducible refine (wishbookref10_Last.calls kj5 _ _ l0_0 _ _ l0_1 _ _ l0_2 a1 t323 t324 _ ?side1 ?side2 ?side3 ?side4 ?side5 ?side6 A15.out).mono ?_); (case side1 => repeat (first | exact (Kd.C_below HR0_0.out HB.out) | (with_reducible refine Kd.C_alloc ?_ _) | (with_reducible refine Kd.C_drewN ?_ _) | (with_reducible refine Kd.C_drew ?_))); (case side2 => exact HC0_0.out); (case side3 => repeat (first | exact (Kd.C_below HR0_1.out HB.out) | (with_reducible refine Kd.C_alloc ?_ _) | (with_reducible refine Kd.C_drewN ?_ _) | (with_reducible refine Kd.C_drew ?_))); (case side4 => exact HC0_1.out); (case side5 => repeat (first | exact (Kd.C_below HR0_2.out HB.out) | (with_reducible refine Kd.C_alloc ?_ _) | (with_reducible refine Kd.C_drewN ?_ _) | (with_reducible refine Kd.C_drew ?_))); (case side6 => exact HC0_2.out); rintro e w27 ⟨rfl, hb⟩; refine ⟨_, rfl, ?_⟩; have n0_ := Aside0.mk (blk_below (g := gb316) (o := .cells #[.slice A0_0 l0_0.length c0_0, .slice A0_1 l0_1.length c0_1, .slice A0_2 l0_2.length c0_2] 26 (0, 0)) (by (with_reducible repeat (first | refine blk_drewN ?_ _ | refine blk_drew ?_ | refine blk_alloc ?_ _)); exact BK316.out) hb); have n1_ := Aside0.mk (below_step (by repeat (first | (with_reducible first | exact HB.out | apply below_alloc | apply pw_below_drewN | apply below_drew1 | refine below_set ?_ GE316.out) | exact HB.out)) hb); clear BK316; clear HB; have BK316 := n0_; have HB := n1_; clear n0_ n1_; (try clear hb); (try clear hb2); (try clear hk); (try clear hi)))
            go_ret
            exact ⟨by first | rfl | (simp [errW_none, errW_some] <;> rfl) | (simp [*, errW_none, errW_some] <;> rfl), by repeat (first | (with_reducible first | exact HB.out | apply below_alloc | apply pw_below_drewN | apply below_drew1 | refine below_set ?_ GE316.out) | exact HB.out)⟩
        · rw [if_neg c16] at H
          have c16b0 : (t321 == t323) = false := beq_eq_false_iff_ne.mpr c16
          have c16b1 : (t321 != t323) = true := bne_iff_ne.mpr c16
          obtain rfl := Option.some.inj H
          have hcz28_0 : wc.cell? ⟨gb316, 0, none⟩ = some (.slice A0_0 l0_0.length c0_0) := (blk_cell BK316.out 0).trans rfl
          have hcz28_1 : wc.cell? ⟨gb316, 1, none⟩ = some (.slice A0_1 l0_1.length c0_1) := (blk_cell BK316.out 1).trans rfl
          have hcz28_2 : wc.cell? ⟨gb316, 2, none⟩ = some (.slice A0_2 l0_2.length c0_2) := (blk_cell BK316.out 2).trans rfl
          have hfz28_0 := blk_frozen BK316.out 0
          have hfz28_1 := blk_frozen BK316.out 1
          have hfz28_2 := blk_frozen BK316.out 2
          go_wp2_with (first | ((with_reducible refine gate_callee (f := 22) rfl ?_); refine goesL_ (some 36) rfl rfl Tryd.func22 (by kernel_rfl) rfl #[.agg #[.slice A0_0 l0_0.length c0_0, .slice A0_1 l0_1.length c0_1, .slice A0_2 l0_2.length c0_2], .int .i64 a1] rfl (by (try simp only [List.map_toArray, List.map_cons, List.map_nil]); first | done | rfl | (simp only [List.length_drop, List.length_take]; rfl)) ?_; (with_reducible refine (lack_Last.calls _ _ l0_0 _ _ l0_1 _ _ l0_2 a1 t321 t322 _ ?side1 ?side2 ?side3 ?side4 ?side5 ?side6 ?sideF A14.out).mono ?_); (case side1 => repeat (first | exact (Kd.C_below HR0_0.out HB.out) | (with_reducible refine Kd.C_alloc ?_ _) | (with_reducible refine Kd.C_drewN ?_ _) | (with_reducible refine Kd.C_drew ?_))); (case side2 => exact HC0_0.out); (case side3 => repeat (first | exact (Kd.C_below HR0_1.out HB.out) | (with_reducible refine Kd.C_alloc ?_ _) | (with_reducible refine Kd.C_drewN ?_ _) | (with_reducible refine Kd.C_drew ?_))); (case side4 => exact HC0_1.out); (case side5 => repeat (first | exact (Kd.C_below HR0_2.out HB.out) | (with_reducible refine Kd.C_alloc ?_ _) | (with_reducible refine Kd.C_drewN ?_ _) | (with_reducible refine Kd.C_drew ?_))); (case side6 => exact HC0_2.out); (case sideF => exact Fates.below HFA.out (by repeat (first | (with_reducible first | exact HB.out | apply below_alloc | apply pw_below_drewN | apply below_drew1 | refine below_set ?_ GE316.out) | exact HB.out))); rintro e w29 ⟨rfl, hb⟩; refine ⟨_, rfl, ?_⟩; have n0_ := Aside0.mk (blk_below (g := gb316) (o := .cells #[.slice A0_0 l0_0.length c0_0, .slice A0_1 l0_1.length c0_1, .slice A0_2 l0_2.length c0_2] 26 (0, 0)) (by (with_reducible repeat (first | refine blk_drewN ?_ _ | refine blk_drew ?_ | refine blk_alloc ?_ _)); exact BK316.out) hb); have n1_ := Aside0.mk (below_step (by repeat (first | (with_reducible first | exact HB.out | apply below_alloc | apply pw_below_drewN | apply below_drew1 | refine below_set ?_ GE316.out) | exact HB.out)) hb); clear BK316; clear HB; have BK316 := n0_; have HB := n1_; clear n0_ n1_; (try clear hb); (try clear hb2); (try clear hk); (try clear hi); have hcz30_0 : w29.cell? ⟨gb316, 0, none⟩ = some (.slice A0_0 l0_0.length c0_0) := (blk_cell BK316.out 0).trans rfl; have hcz30_1 : w29.cell? ⟨gb316, 1, none⟩ = some (.slice A0_1 l0_1.length c0_1) := (blk_cell BK316.out 1).trans rfl; have hcz30_2 : w29.cell? ⟨gb316, 2, none⟩ = some (.slice A0_2 l0_2.length c0_2) := (blk_cell BK316.out 2).trans rfl; have hfz30_0 := blk_frozen BK316.out 0; have hfz30_1 := blk_frozen BK316.out 1; have hfz30_2 := blk_frozen BK316.out 2) | ((with_reducible refine gate_callee (f := 23) rfl ?_); refine goesL_ (some 42) rfl rfl Tryd.func23 (by kernel_rfl) rfl #[.agg #[.slice A0_0 l0_0.length c0_0, .slice A0_1 l0_1.length c0_1, .slice A0_2 l0_2.length c0_2], .int .i64 a1] rfl (by (try simp only [List.map_toArray, List.map_cons, List.map_nil]); first | done | rfl | (simp only [List.length_drop, List.length_take]; rfl)) ?_; (with_reducible refine (wishbookref10_Last.calls kj5 _ _ l0_0 _ _ l0_1 _ _ l0_2 a1 t323 t324 _ ?side1 ?side2 ?side3 ?side4 ?side5 ?side6 A15.out).mono ?_); (case side1 => repeat (first | exact (Kd.C_below HR0_0.out HB.out) | (with_reducible refine Kd.C_alloc ?_ _) | (with_reducible refine Kd.C_drewN ?_ _) | (with_reducible refine Kd.C_drew ?_))); (case side2 => exact HC0_0.out); (case side3 => repeat (first | exact (Kd.C_below HR0_1.out HB.out) | (with_reducible refine Kd.C_alloc ?_ _) | (with_reducible refine Kd.C_drewN ?_ _) | (with_reducible refine Kd.C_drew ?_))); (case side4 => exact HC0_1.out); (case side5 => repeat (first | exact (Kd.C_below HR0_2.out HB.out) | (with_reducible refine Kd.C_alloc ?_ _) | (with_reducible refine Kd.C_drewN ?_ _) | (with_reducible refine Kd.C_drew ?_))); (case side6 => exact HC0_2.out); rintro e w31 ⟨rfl, hb⟩; refine ⟨_, rfl, ?_⟩; have n0_ := Aside0.mk (blk_below (g := gb316) (o := .cells #[.slice A0_0 l0_0.length c0_0, .slice A0_1 l0_1.length c0_1, .slice A0_2 l0_2.length c0_2] 26 (0, 0)) (by (with_reducible repeat (first | refine blk_drewN ?_ _ | refine blk_drew ?_ | refine blk_alloc ?_ _)); exact BK316.out) hb); have n1_ := Aside0.mk (below_step (by repeat (first | (with_reducible first | exact HB.out | apply below_alloc | apply pw_below_drewN | apply below_drew1 | refine below_set ?_ GE316.out) | exact HB.out)) hb); clear BK316; clear HB; have BK316 := n0_; have HB := n1_; clear n0_ n1_; (try clear hb); (try clear hb2); (try clear hk); (try clear hi)))
          go_ret
          exact ⟨by first | rfl | (simp [errW_none, errW_some] <;> rfl) | (simp [*, errW_none, errW_some] <;> rfl), by repeat (first | (with_reducible first | exact HB.out | apply below_alloc | apply pw_below_drewN | apply below_drew1 | refine below_set ?_ GE316.out) | exact HB.out)⟩
end Go.Proofs.YtegpepnmnlockaaDoor.PL
namespace Go.Proofs.YtegpepnmnlockaaDoor.PL
open Go.RowKit Go.Proofs.YtegpepnmnlockaaDoorW.PrintWords Go.Proofs.YtegpepnmnlockaaDoorW.PrintLast Go.Proofs.YtegpepnmnlockaaDoorW.PrintMore
set_option linter.unusedVariables false
set_option linter.unusedSimpArgs false
theorem Tween_f (a lo hi : Int) : wishbookref00_Tween.f a lo hi = some (decide (lo ≤ a) && decide (a ≤ hi)) := by
  unfold wishbookref00_Tween.f
  by_cases h : lo ≤ a
  · rw [if_pos h, decide_eq_true h, Bool.true_and]
  · rw [if_neg h, decide_eq_false h, Bool.false_and]
theorem Has_f (lo hi a : Int) : wishbookref00_Has.f lo hi a = some (decide (lo ≤ a) && decide (a ≤ hi)) := by
  unfold wishbookref00_Has.f
  rw [Tween_f]
  rfl
theorem isLine_f (l0 : List Int) (l1 : List S47) (l2 : List S57) (hf : Few l0 l1 l2) (a : Int) : wishbookref10_isLine.f l0 l1 l2 a = some (decide (0 ≤ a ∧ a ≤ (l1.length : Int) - 1)) := by
  unfold wishbookref10_isLine.f
  have h := hf.2.1
  rw [Tween_f, wrap_pred (by omega), Option.bind_some]
  congr 1
  rw [Bool.decide_and]
theorem asked_f (l0 : List Int) (l1 : List S47) (l2 : List S57) (hf : Few l0 l1 l2) (b : Bool) : wishbookref10_asked.f l0 l1 l2 b = some (if okB l0 l1 l2 = true then (if b = true then 0 else 101) else 100) := by
  unfold wishbookref10_asked.f
  rw [RCheck_f l0 l1 l2 hf, Option.bind_some]
  cases okB l0 l1 l2 with
  | false => rfl
  | true => cases b <;> rfl
theorem inDay_b (d : S57) (c : S59) : decide (inDay d c) = (decide (d.f1.f0 ≤ c.f0) && decide (c.f0 ≤ d.f1.f1)) := by
  rw [Bool.eq_iff_iff, decide_eq_true_iff, Bool.and_eq_true, decide_eq_true_iff, decide_eq_true_iff]
  exact Iff.rfl
theorem inBy_b (d : S57) (c : S59) : decide (inBy d c) = (decide (d.f2.f0 ≤ c.f1) && decide (c.f1 ≤ d.f2.f1)) := by
  rw [Bool.eq_iff_iff, decide_eq_true_iff, Bool.and_eq_true, decide_eq_true_iff, decide_eq_true_iff]
  exact Iff.rfl
section
variable (l0 : List Int) (l1 : List S47) (l2 : List S57)
theorem Did_l0 (cm : List S59) (hl : l2.length ≤ 6) : ∀ (e i k : Nat), i + e = cm.length → 2 * e + 2 ≤ k → wishbookref10_Did.l0 k cm (didAt l2 cm i) i l0 l1 l2 = some (didAt l2 cm cm.length)
  | e, i, k + 2, hi, hk => by
    rw [wishbookref10_Did.l0]
    cases hd : didAt l2 cm i with
    | false =>
      rw [if_neg (by decide), wishbookref10_Did.j1, if_neg (by decide), didAt_false hd cm.length (by omega)]
    | true =>
      have hlen : (cm.length : Int) = (l2.length : Int) := by
        have h := hd
        unfold didAt at h
        rw [Bool.and_eq_true, beq_iff_eq] at h
        exact h.1
      rw [if_pos rfl, wishbookref10_Did.j1]
      match e, hi, hk with
      | 0, hi, hk =>
        rw [if_neg (by simp; omega), ← hd, show i = cm.length by omega]
      | e + 1, hi, hk =>
        have ih := Did_l0 cm hl e (i + 1) k (by omega) (by omega)
        rw [didAt_succ, hd, Bool.true_and] at ih
        rw [if_pos (decide_eq_true (by omega)), if_pos (by omega), if_pos (by omega), if_pos (by omega), Has_f, Option.bind_some, wrap_succ (by omega)]
        rw [inDay_b, inBy_b] at ih
        cases hx : decide ((rd_T57 l2 i).f1.f0 ≤ (rd_T59 cm i).f0) && decide ((rd_T59 cm i).f0 ≤ (rd_T57 l2 i).f1.f1) with
        | false =>
          rw [hx, Bool.false_and] at ih
          rw [if_neg (by decide)]
          exact ih
        | true =>
          rw [hx, Bool.true_and] at ih
          rw [if_pos rfl, Has_f, Option.bind_some]
          exact ih
theorem Did_f (cm : List S59) (hl : l2.length ≤ 6) (k : Nat) (hk : 2 * cm.length + 2 ≤ k) : wishbookref10_Did.f k l0 l1 l2 cm = some (didAt l2 cm cm.length) := by
  have h := Did_l0 l0 l1 l2 cm hl cm.length 0 k (by omega) hk
  have h0 : didAt l2 cm 0 = ((cm.length : Int) == (l2.length : Int)) := by
    unfold didAt
    rw [List.range_zero, List.all_nil, Bool.and_true]
  rw [h0] at h
  exact h
theorem Come_f (hf : Few l0 l1 l2) (a : Int) (cm : List S59) (k : Nat) (hk : 43000 + 2 * cm.length ≤ k) : wishbookref10_Come.f k l0 l1 l2 a cm = lack_Come.f l0 l1 l2 a cm := by
  unfold wishbookref10_Come.f lack_Come.f
  rw [if_pos hf, isLine_f l0 l1 l2 hf, Option.bind_some, asked_f l0 l1 l2 hf, Option.bind_some]
  cases hb : okB l0 l1 l2 with
  | false => rw [if_neg (show ¬ (false = true) by decide), if_neg (show ¬ (false = true) by decide), if_neg (by decide)]
  | true =>
    rw [if_pos rfl, if_pos rfl]
    have f := okB_facts hb
    by_cases ha : 0 ≤ a ∧ a ≤ (l1.length : Int) - 1
    · rw [if_pos ha, if_pos (decide_eq_true ha), if_pos rfl, Did_f l0 l1 l2 cm f.2.2.2.2.1 k (by omega), Option.bind_some]
      cases hd : didAt l2 cm cm.length with
      | false => rw [if_neg (by decide), if_neg (by decide)]
      | true =>
        have hlen : (cm.length : Int) = (l2.length : Int) := by
          have h := hd
          unfold didAt at h
          rw [Bool.and_eq_true, beq_iff_eq] at h
          exact h.1
        have hsl := (servF_len l1 l2 f.2.1).2
        obtain ⟨line, rfl⟩ : ∃ n : Nat, a = n := ⟨a.toNat, by omega⟩
        rw [if_pos rfl, if_pos rfl, rserved l0 l1 l2 hf hb, Option.bind_some]
        dsimp only
        rw [if_pos (by omega), if_pos (by omega)]
        by_cases hs : (rd_T49 (servF l0 l1 l2).2 line).f2 = 0
        · rw [if_pos hs, if_pos hs]
        · have := share_bd (servF_ok hb).2 line
          rw [if_neg hs, if_neg hs, given_f l0 l1 l2 hf hb cm (by omega) hd line (by omega) (by omega) k (by omega), Option.bind_some, Int.toNat_natCast]
    · rw [if_neg ha, decide_eq_false ha, if_neg (show ¬ (false = true) by decide), if_neg (by decide)]
theorem lastCame_len : (lastCame l2).length = l2.length := by unfold lastCame; rw [List.length_map]
theorem rd_lastCame {i : Nat} (h : i < l2.length) : rd_T59 (lastCame l2) i = ⟨(rd_T57 l2 i).f1.f1, (rd_T57 l2 i).f2.f0⟩ := by
  unfold rd_T59 rd_T57 lastCame
  rw [Int.toNat_natCast, List.getD_eq_getElem?_getD, List.getD_eq_getElem?_getD, List.getElem?_map, List.getElem?_eq_getElem h]
  rfl
theorem didAt_last (hb : okB l0 l1 l2 = true) : didAt l2 (lastCame l2) (lastCame l2).length = true := by
  unfold didAt
  rw [Bool.and_eq_true, beq_iff_eq, List.all_eq_true, lastCame_len]
  refine ⟨rfl, fun i hi => ?_⟩
  have hi := List.mem_range.1 hi
  have h := okB_del hb hi
  rw [rd_lastCame l2 hi, Bool.and_eq_true, decide_eq_true_iff, decide_eq_true_iff]
  unfold okDel at h
  unfold inDay inBy
  dsimp only
  omega
theorem Last_l0 (hf : Few l0 l1 l2) (hl : l2.length ≤ 6) (a : Int) : ∀ (e i k : Nat), i + e = l2.length → 43100 + e ≤ k → wishbookref10_Last.l0 k a (lastCame (l2.take i)) i l0 l1 l2 = lack_Come.f l0 l1 l2 a (lastCame l2)
  | 0, i, k + 1, hi, hk => by
    rw [wishbookref10_Last.l0, if_neg (by omega), show i = l2.length by omega, List.take_length, Come_f l0 l1 l2 hf a (lastCame l2) k (by rw [lastCame_len]; omega)]
    generalize lack_Come.f l0 l1 l2 a (lastCame l2) = o
    cases o <;> rfl
  | e + 1, i, k + 1, hi, hk => by
    have ih := Last_l0 hf hl a e (i + 1) k (by omega) (by omega)
    rw [lastCame_snoc l2 (show i < l2.length by omega)] at ih
    have hll := lastCame_len (l2.take i)
    rw [List.length_take] at hll
    rw [wishbookref10_Last.l0, if_pos (by omega), if_pos (by omega), if_pos (by omega), wrap_succ (by omega)]
    exact ih
theorem Last_f (hf : Few l0 l1 l2) (a : Int) (k : Nat) (hk : 43200 ≤ k) : wishbookref10_Last.f k l0 l1 l2 a = lack_Last.f l0 l1 l2 a := by
  unfold wishbookref10_Last.f lack_Last.f
  rw [if_pos hf, isLine_f l0 l1 l2 hf, Option.bind_some, asked_f l0 l1 l2 hf, Option.bind_some]
  cases hb : okB l0 l1 l2 with
  | false => rw [if_neg (show ¬ (false = true) by decide), if_neg (show ¬ (false = true) by decide), if_neg (by decide)]
  | true =>
    rw [if_pos rfl, if_pos rfl]
    have f := okB_facts hb
    by_cases ha : 0 ≤ a ∧ a ≤ (l1.length : Int) - 1
    · rw [if_pos ha, if_pos (decide_eq_true ha), if_pos rfl]
      have h := Last_l0 l0 l1 l2 hf f.2.2.2.2.1 a l2.length 0 k (by omega) (by omega)
      refine Eq.trans h ?_
      unfold lack_Come.f
      rw [if_pos hf, if_pos hb, if_pos ha, if_pos (didAt_last l0 l1 l2 hb)]
    · rw [if_neg ha, decide_eq_false ha, if_neg (show ¬ (false = true) by decide), if_neg (by decide)]
theorem come_ends (hf : Few l0 l1 l2) (a : Int) (cm : List S59) : ∃ x e, lack_Come.f l0 l1 l2 a cm = some (x, e) := by
  unfold lack_Come.f
  rw [if_pos hf]
  repeat' split
  all_goals exact ⟨_, _, rfl⟩
theorem last_ends (hf : Few l0 l1 l2) (a : Int) : ∃ x e, lack_Last.f l0 l1 l2 a = some (x, e) := by
  unfold lack_Last.f
  rw [if_pos hf]
  repeat' split
  all_goals exact ⟨_, _, rfl⟩
/-- LackComes is true of all lists that a machine holds. -/
theorem LackComes_pure (a : Int) (cm : List S59) (hf : Few l0 l1 l2) : ∃ k, wishbooklaw10_LackComes.f k l0 l1 l2 a cm = some true := by
  refine ⟨43300 + 2 * cm.length, ?_⟩
  generalize hk : 43300 + 2 * cm.length = k
  obtain ⟨x, e, hx⟩ := come_ends l0 l1 l2 hf a cm
  obtain ⟨y, g, hy⟩ := last_ends l0 l1 l2 hf a
  obtain ⟨k, rfl⟩ : ∃ j, k = j + 1 := ⟨k - 1, by omega⟩
  have hx2 := (Come_f l0 l1 l2 hf a cm (k + 1) (by omega)).trans hx
  have hy2 := (Last_f l0 l1 l2 hf a k (by omega)).trans hy
  unfold wishbooklaw10_LackComes.f
  simp only [hx, hx2, Option.bind_some]
  rw [if_pos trivial, bne_self_eq_false, wishbooklaw10_LackComes.j0, if_neg (by decide)]
  simp only [hy, hy2, Option.bind_some]
  rw [if_pos trivial, if_pos trivial]
  rfl
end
end Go.Proofs.YtegpepnmnlockaaDoor.PL
namespace Go
variable {H : Type} {enc : TypeId × Value → H}
/-- The frame of a row whose contract is told the world's shape and one condition more. -/
theorem returnsInHanded_of_change_and_shaped {a : Assume} {C : Checked} {os : Os} {f : FuncId} {fn : Func} {s : ChangeSpec} {conds : List PathCond} {apart fresh handsOn again : Bool} {X : World → Array Value → Prop}
    (hX : ∀ (w w' : World) (args : Array Value), w.heap = w'.heap → X w args → X w' args)
    (own : ownKnob C.prog.godebug = none) (started : os.Started) (noInit : C.prog.inits.idxOf? f = none) (hfn : C.prog.funcs[f]? = some fn)
    (witness : ∃ (w : World) (tape : Tape) (i : Input), w.os = os ∧ (w.forCall tape i).Shaped C.prog ∧ i.vars = [] ∧ Input.okWide C.prog (w.forCall tape i) .any w.heap.size f i ∧
      ((s.pre enc C.prog fn conds apart (w.forCall tape i).memory i.args ∧ X (w.forCall tape i).memory i.args) ∧ sizedMet enc C.prog fn (OpenSpec.ofChange s) apart (w.forCall tape i).memory i.args) ∧ a.holds C.prog (lone (Frame.enter C.prog f i.args .normal) [] (w.forCall tape i)))
    (contract : ∀ (W : World) (base : Nat) (args : Array Value) (ds gs : List (DataW H)) (before : List MemPlace),
      (∀ (j : Nat) t v, fn.params[j]? = some t → args[j]? = some v → Value.okWide C.prog W .any base t v) →
      DataW.Whole enc C.prog fn.params.toList s.vars apart W args.toList ds gs before →
      (DataW.weightsEach C.prog (fn.params.toList ++ s.plain.varTypes C.prog) (ds ++ gs)).all (· ≤ reachBytes) = true → W.ShapedOpen C.prog → X W args →
      Calls C.prog f args W fun e W' => ∃ v, e = .returned v ∧ s.post enc C.prog fn apart fresh handsOn again W args v W') :
    ReturnsInHanded a C os f .any (fun w args => (s.pre enc C.prog fn conds apart w args ∧ X w args) ∧ sizedMet enc C.prog fn (OpenSpec.ofChange s) apart w args) (s.post enc C.prog fn apart fresh handsOn again) := by
  refine returnsInHanded_of_calls own started noInit witness ?_
  intro w tape i _ hsh _ hok hpre _
  obtain ⟨_, _, _, fn', hfn', _, _, _, _, hval⟩ := hok
  obtain rfl := Option.some.inj (hfn'.symm.trans hfn)
  obtain ⟨⟨⟨ds, gs, before, hw, hc⟩, hx⟩, hz⟩ := hpre
  refine (contract (w.forCall tape i) w.heap.size i.args ds gs before hval (DataW.Whole.of_heap (w' := w.forCall tape i) (by rfl) hw) (hz.weights hw) hsh (hX _ _ _ (by rfl) hx)).mono fun e W' ⟨v, he, hp⟩ => ?_
  subst he
  exact ChangeSpec.post_blind hp
end Go
namespace Go.Proofs.YtegpepnmnlockaaDoor.PL
open Go.RowKit Go.ChangeShapes Go.WideShapes Go.Deep Go.Proofs.YtegpepnmnlockaaDoorW.PrintWords Go.Proofs.YtegpepnmnlockaaDoorW.PrintLast Go.Proofs.YtegpepnmnlockaaDoorW.PrintMore
set_option linter.unusedVariables false
set_option linter.unusedSimpArgs false
section
variable {H : Type} {enc : TypeId × Value → H} {P : Program} {α β : Type}
/-- The data of a type are of a kind. -/
def Rds (enc : TypeId × Value → H) (P : Program) (d : Kd α) (t : TypeId) (ok : α → Prop) : Prop := ∀ (w : World) (n : Nat) (cs : List Value) (x : DataW H × List MemPlace),
  DataW.trod enc P w 0 (fun _ => true) true n t cs = some x → (x.1.weights P t).all (· ≤ reachBytes) = true → ∃ a, d.K w a cs ∧ ok a
theorem Rds.int {t : TypeId} {k : IntKind} (ht : P.underlying t = some (.int k)) : Rds enc P (Kd.int k) t (fun n => (Lit.int k n).wf = true) := fun w n cs x h _ => by
  obtain ⟨m, rfl, _, hw⟩ := DataW.trod_int ht h
  exact ⟨m, rfl, hw⟩
theorem Rds.iso {d : Kd α} {t : TypeId} {ok : α → Prop} (h : Rds enc P d t ok) (f : β → α) (g : α → β) (hfg : ∀ a, f (g a) = a) : Rds enc P (Kd.iso d f) t (fun b => ok (f b)) := fun w n cs x hx hz => by
  obtain ⟨a, hK, ho⟩ := h w n cs x hx hz
  refine ⟨g a, ?_, ?_⟩
  · show d.K w (f (g a)) cs
    rw [hfg]; exact hK
  · show ok (f (g a))
    rw [hfg]; exact ho
theorem all_app {l m : List Nat} (h : (l ++ m).all (· ≤ reachBytes) = true) : l.all (· ≤ reachBytes) = true ∧ m.all (· ≤ reachBytes) = true := by
  rw [List.all_append, Bool.and_eq_true] at h
  exact h
theorem weightsAll_at {e : TypeId} : ∀ {l : List (DataW H)} {j : Nat} {y : DataW H}, (DataW.weightsAll P e l).all (· ≤ reachBytes) = true → l[j]? = some y → (y.weights P e).all (· ≤ reachBytes) = true
  | [], j, y, _, hj => by simp at hj
  | d :: r, 0, y, h, hj => by
    cases hj
    rw [DataW.weightsAll] at h
    exact (all_app h).1
  | d :: r, j + 1, y, h, hj => by
    rw [DataW.weightsAll] at h
    exact weightsAll_at (all_app h).2 (by simpa using hj)
theorem Rds.slice [Inhabited α] {d : Kd α} {t e B : Nat} {ok : α → Prop} (he : Rds enc P d e ok) (ht : P.underlying t = some (.slice e)) (hC : P.cellsOf e = d.sz) (hB : P.bytesOf e = B) :
    Rds enc P (Kd.slice e d) t (fun l => l.length * B ≤ reachBytes ∧ ∀ a ∈ l, ok a) := fun w n cs x h hz => by
  rcases open_slice ht h with ⟨rfl, rfl⟩ | ⟨a, len, cap, m, n', D, Pl, rfl, _, hl, hm, hmm, rfl, hi⟩
  · exact ⟨[], ⟨none, 0, rfl, Nat.le_refl _, Kd.C_nil d w⟩, by simp, by simp⟩
  · have hmc : m = cap := by rw [hmm]; rfl
    subst hmc
    simp only [DataW.weights, ht, List.all_cons, Bool.and_eq_true] at hz
    obtain ⟨hz1, hz2⟩ := hz
    have hlen : len * B ≤ reachBytes := by
      rw [← hB]
      refine Nat.le_trans (Nat.mul_le_mul_right _ ?_) (of_decide_eq_true hz1)
      simp
    have each : ∀ i, i < len → ∃ y : α, (∃ c, c.length = d.sz ∧ d.K w y c ∧ ∀ q u, c[q]? = some u → w.cell? (a.add (i * d.sz + q)) = some u) ∧ ok y := fun i hil => by
      obtain ⟨cs', hc, htr⟩ := hi i (by omega)
      have hw : ((D i).weights P e).all (· ≤ reachBytes) = true := weightsAll_at (j := i) (all_app hz2).1 (by rw [List.getElem?_map, List.getElem?_range hil]; rfl)
      obtain ⟨y, hK, ho⟩ := he w n' cs' (D i, Pl i) htr hw
      rw [hC] at hc
      obtain ⟨_, hcl, hat⟩ := World.cells?_some hc
      refine ⟨y, ⟨cs', hcl, hK, fun q u hu => ?_⟩, ho⟩
      have hq : q < d.sz := by rw [← hcl]; exact (List.getElem?_eq_some_iff.1 hu).1
      rw [← Go.Deep.add_add, hat q hq, hu]
    obtain ⟨V, hV⟩ := choose_lt each
    have hlr : ((List.range len).map V).length = len := by simp
    refine ⟨(List.range len).map V, ⟨some a, m, by rw [hlr], by rw [hlr]; exact hl, by rw [hlr], by rw [hlr]; unfold maxLen at hm; omega, fun _ => ⟨a, rfl, fun j y hy => ?_⟩⟩, by rw [hlr]; exact hlen, fun y hy => ?_⟩
    · have hj : j < len := by rw [← hlr]; exact (List.getElem?_eq_some_iff.1 hy).1
      rw [List.getElem?_map, List.getElem?_range hj] at hy
      cases hy
      exact (hV j hj).1
    · obtain ⟨j, hj, rfl⟩ := List.mem_map.1 hy
      exact (hV j (List.mem_range.1 hj)).2
/-- The same for the fields of a struct, from a place on. -/
def RdF (enc : TypeId × Value → H) (P : Program) (d : Kd α) (l : List Field) (o : Nat) (ok : α → Prop) : Prop := ∀ (w : World) (n : Nat) (cs : List Value) (xs : List (DataW H × List MemPlace)),
  (∀ (i : Nat) (f : Field), l[i]? = some f → DataW.trod enc P w 0 (fun _ => true) true n f.type ((cs.drop f.offset).take (P.cellsOf f.type)) = xs[i]?) → xs.length = l.length →
  (DataW.weightsEach P (l.map (·.type)) (xs.map (·.1))).all (· ≤ reachBytes) = true → cs.length = o + (l.map fun f => P.cellsOf f.type).sum → ∃ a, d.K w a (cs.drop o) ∧ ok a
theorem RdF.one {d : Kd α} {f : Field} {o : Nat} {ok : α → Prop} (h : Rds enc P d f.type ok) (ho : f.offset = o) : RdF enc P d [f] o ok := fun w n cs xs hx hl hz hc => by
  match xs, hl with
  | [y], _ =>
    have h1 := hx 0 f rfl
    rw [ho] at h1
    simp only [List.map_cons, List.map_nil, DataW.weightsEach, List.append_nil] at hz
    simp only [List.map_cons, List.map_nil, List.sum_cons, List.sum_nil] at hc
    obtain ⟨a, hK, hok⟩ := h w n _ y h1 hz
    rw [List.take_of_length_le (by rw [List.length_drop]; omega)] at hK
    exact ⟨a, hK, hok⟩
theorem RdF.cons {d : Kd α} {d2 : Kd β} {f : Field} {l : List Field} {o : Nat} {ok : α → Prop} {ok2 : β → Prop} (h : Rds enc P d f.type ok) (ho : f.offset = o) (h2 : RdF enc P d2 l (o + P.cellsOf f.type) ok2) : RdF enc P (Kd.pair d d2) (f :: l) o (fun x => ok x.1 ∧ ok2 x.2) := fun w n cs xs hx hl hz hc => by
  match xs, hl with
  | y :: ys, hl =>
    have h1 := hx 0 f rfl
    rw [ho] at h1
    simp only [List.map_cons, DataW.weightsEach] at hz
    simp only [List.map_cons, List.sum_cons] at hc
    obtain ⟨a, hK, hok⟩ := h w n _ y h1 (all_app hz).1
    obtain ⟨b, hK2, hok2⟩ := h2 w n cs ys (fun i g hg => by have := hx (i + 1) g (by simpa using hg); simpa using this) (by simpa using hl) (all_app hz).2 (by omega)
    refine ⟨(a, b), ⟨_, _, ?_, hK, hK2⟩, hok, hok2⟩
    rw [← List.drop_drop, List.take_append_drop]
theorem RdF.struct {d : Kd α} {t : TypeId} {fs : Array Field} {ok : α → Prop} (ht : P.underlying t = some (.struct fs)) (h : RdF enc P d fs.toList 0 ok) (hc : P.cellsOf t = (fs.toList.map fun f => P.cellsOf f.type).sum) : Rds enc P d t ok := fun w n cs x hx hz => by
  obtain ⟨xs, n', rfl, rfl, hl, hlen, hf⟩ := DataW.trod_struct ht hx
  simp only [DataW.weights, ht] at hz
  have := h w n' cs xs (fun i f hi => hf i f (by simpa using hi)) (by simpa using hlen) hz (by rw [hl, hc]; omega)
  rwa [List.drop_zero] at this
end
end Go.Proofs.YtegpepnmnlockaaDoor.PL
namespace Go.Proofs.YtegpepnmnlockaaDoor.PL
open Go.RowKit Go.ChangeShapes Go.WideShapes Go.Deep Go.Proofs.YtegpepnmnlockaaDoorW.PrintWords Go.Proofs.YtegpepnmnlockaaDoorW.PrintLast Go.Proofs.YtegpepnmnlockaaDoorW.PrintMore
set_option linter.unusedVariables false
set_option linter.unusedSimpArgs false
section
variable {H : Type} {enc : TypeId × Value → H}
def W64 (n : Int) : Prop := (Lit.int .i64 n).wf = true
instance : Inhabited S47 := ⟨z47⟩
instance : Inhabited S57 := ⟨z57⟩
instance : Inhabited S59 := ⟨z59⟩
def W47 (x : S47) : Prop := W64 x.f0 ∧ W64 x.f1 ∧ W64 x.f2 ∧ W64 x.f3 ∧ W64 x.f4
def W55 (x : S55) : Prop := W64 x.f0 ∧ W64 x.f1
def W57 (x : S57) : Prop := W64 x.f0 ∧ W55 x.f1 ∧ W55 x.f2
def W59 (x : S59) : Prop := W64 x.f0 ∧ W64 x.f1
theorem rdI : Rds enc Tryd.prog (Kd.int .i64) 3 W64 := Rds.int Tryd.underlying3
theorem rds47 : Rds enc Tryd.prog k47 47 W47 :=
  Rds.iso (RdF.struct Tryd.underlying47 (RdF.cons rdI rfl (RdF.cons rdI (by kernel_rfl) (RdF.cons rdI (by kernel_rfl) (RdF.cons rdI (by kernel_rfl) (RdF.one rdI (by kernel_rfl)))))) (by kernel_rfl)) _ (fun p => ⟨p.1, p.2.1, p.2.2.1, p.2.2.2.1, p.2.2.2.2⟩) (fun _ => rfl)
theorem rds55 : Rds enc Tryd.prog k55 55 W55 :=
  Rds.iso (RdF.struct Tryd.underlying55 (RdF.cons rdI rfl (RdF.one rdI (by kernel_rfl))) (by kernel_rfl)) _ (fun p => ⟨p.1, p.2⟩) (fun _ => rfl)
theorem rds57 : Rds enc Tryd.prog k57 57 W57 :=
  Rds.iso (RdF.struct Tryd.underlying57 (RdF.cons rdI rfl (RdF.cons rds55 (by kernel_rfl) (RdF.one rds55 (by kernel_rfl)))) (by kernel_rfl)) _ (fun p => ⟨p.1, p.2.1, p.2.2⟩) (fun _ => rfl)
theorem rds59 : Rds enc Tryd.prog k59 59 W59 :=
  Rds.iso (RdF.struct Tryd.underlying59 (RdF.cons rdI rfl (RdF.one rdI (by kernel_rfl))) (by kernel_rfl)) _ (fun p => ⟨p.1, p.2⟩) (fun _ => rfl)
theorem rds22 : Rds enc Tryd.prog (Kd.slice 3 (Kd.int .i64)) 22 (fun l => l.length * 8 ≤ reachBytes ∧ ∀ a ∈ l, W64 a) := Rds.slice rdI Tryd.underlying22 (by kernel_rfl) (by kernel_rfl)
theorem rds23 : Rds enc Tryd.prog (Kd.slice 47 k47) 23 (fun l => l.length * 40 ≤ reachBytes ∧ ∀ a ∈ l, W47 a) := Rds.slice rds47 Tryd.underlying23 (by kernel_rfl) (by kernel_rfl)
theorem rds24 : Rds enc Tryd.prog (Kd.slice 57 k57) 24 (fun l => l.length * 40 ≤ reachBytes ∧ ∀ a ∈ l, W57 a) := Rds.slice rds57 Tryd.underlying24 (by kernel_rfl) (by kernel_rfl)
theorem rds35 : Rds enc Tryd.prog (Kd.slice 59 k59) 35 (fun l => l.length * 16 ≤ reachBytes ∧ ∀ a ∈ l, W59 a) := Rds.slice rds59 Tryd.underlying35 (by kernel_rfl) (by kernel_rfl)
theorem rds26 : Rds enc Tryd.prog k26 26 (fun x => (x.f0.length * 8 ≤ reachBytes ∧ ∀ a ∈ x.f0, W64 a) ∧ (x.f1.length * 40 ≤ reachBytes ∧ ∀ a ∈ x.f1, W47 a) ∧ (x.f2.length * 40 ≤ reachBytes ∧ ∀ a ∈ x.f2, W57 a)) :=
  Rds.iso (RdF.struct Tryd.underlying26 (RdF.cons rds22 rfl (RdF.cons rds23 (by kernel_rfl) (RdF.one rds24 (by kernel_rfl)))) (by kernel_rfl)) _ (fun p => ⟨p.1, p.2.1, p.2.2⟩) (fun _ => rfl)
set_option maxRecDepth 100000 in
/-- A book that came in. -/
theorem open26 {W : World} {v : Value} {d : DataW H} {p : List MemPlace} {r : Reach} {b : Nat} (hv : Value.okWide Tryd.prog W r b 26 v) (h : DataW.Trod enc Tryd.prog W 0 (fun _ => true) true 26 v d p) (hz : (d.weights Tryd.prog 26).all (· ≤ reachBytes) = true) :
    ∃ A0 c0 l0 A1 c1 l1 A2 c2 l2, v = .agg #[.slice A0 l0.length c0, .slice A1 l1.length c1, .slice A2 l2.length c2] ∧ Kd.C (Kd.int .i64) W A0 l0.length l0 ∧ l0.length ≤ c0 ∧ Kd.C k47 W A1 l1.length l1 ∧ l1.length ≤ c1 ∧ Kd.C k57 W A2 l2.length l2 ∧ l2.length ≤ c2 ∧
      l0.length * 8 ≤ 140737488351232 ∧ l1.length * 40 ≤ 140737488351232 ∧ l2.length * 40 ≤ 140737488351232 ∧ (∀ a ∈ l0, W64 a) ∧ (∀ a ∈ l1, W47 a) ∧ (∀ a ∈ l2, W57 a) := by
  obtain ⟨cs, rfl, _⟩ := okWide_struct Tryd.underlying26 hv
  obtain ⟨n, hf⟩ := h
  have hex := rds26 W n _ _ hf hz
  generalize hR : reachBytes = R at hex
  obtain ⟨x, hK, hz0, hz1, hz2⟩ := hex
  have hR' : R = 140737488351232 := hR.symm.trans (by kernel_rfl)
  obtain ⟨A0, c0, A1, c1, A2, c2, hcs, g0, r0, g1, r1, g2, r2⟩ := k26_open hK
  have hcs' : cs = #[.slice A0 x.f0.length c0, .slice A1 x.f1.length c1, .slice A2 x.f2.length c2] := Array.toList_inj.1 hcs
  rw [← hR']
  exact ⟨A0, c0, x.f0, A1, c1, x.f1, A2, c2, x.f2, by rw [hcs'], r0, g0, r1, g1, r2, g2, hz0.1, hz1.1, hz2.1, hz0.2, hz1.2, hz2.2⟩
theorem gFates : Tryd.prog.globalNamed "wishbook/lack.fates" = some 0 := by kernel_rfl
theorem tFates : (Tryd.prog.globals[0]?).map (·.type) = some 115 := by kernel_rfl
theorem cells115 : Tryd.prog.cellsOf 115 = 3 := by kernel_rfl
theorem cells114 : Tryd.prog.cellsOf 114 = 1 := by kernel_rfl
theorem row0 : (((begin Tryd.prog (fun _ _ => 0) default).world.heap[0]?).bind Obj.row?).map Prod.snd = some 115 := by kernel_rfl
theorem globals0 : 0 < Tryd.prog.globals.size := of_decide_eq_true (by kernel_rfl)
set_option maxRecDepth 100000 in
/-- What the condition gives the walks: the table's block. -/
theorem fates_of {W : World} (hsh : W.ShapedOpen Tryd.prog) (h : laidMetH Tryd.prog [("wishbook/lack.fates", Rows.laid_wishbook_lack_fates)] W) : Fates W := by
  obtain ⟨g, t, cs, fuel, p, hg, ht, hv, hd⟩ := h.funcs (List.mem_singleton.2 rfl)
  obtain rfl := Option.some.inj (gFates.symm.trans hg)
  obtain rfl := Option.some.inj (tFates.symm.trans ht)
  obtain ⟨xs, m, rfl, hx, hl, hlen, hi⟩ := DataW.trod_array Tryd.underlying115 hd
  rw [cells115, Array.length_toList] at hl
  obtain ⟨l⟩ := cs
  match l, hl, xs, hlen with
  | [a, b, c], _, [y0, y1, y2], _ =>
    rw [cells114] at hi
    have h0 : DataW.trod (funcToken Tryd.prog) Tryd.prog W 0 (fun _ => true) true m 114 [a] = some y0 := hi 0 (by decide)
    have h1 : DataW.trod (funcToken Tryd.prog) Tryd.prog W 0 (fun _ => true) true m 114 [b] = some y1 := hi 1 (by decide)
    have h2 : DataW.trod (funcToken Tryd.prog) Tryd.prog W 0 (fun _ => true) true m 114 [c] = some y2 := hi 2 (by decide)
    obtain ⟨hx, _⟩ := Prod.mk.inj hx
    have hx' : DataW.agg [DataW.held [40, 42, 119, 105, 115, 104, 98, 111, 111, 107, 47, 108, 97, 99, 107, 46, 98, 111, 111, 107, 41, 46, 115, 101, 110, 116], DataW.held [40, 42, 119, 105, 115, 104, 98, 111, 111, 107, 47, 108, 97, 99, 107, 46, 98, 111, 111, 107, 41, 46, 105, 110, 115, 116, 101, 97, 100], DataW.held [40, 42, 119, 105, 115, 104, 98, 111, 111, 107, 47, 108, 97, 99, 107, 46, 98, 111, 111, 107, 41, 46, 108, 105, 115, 116, 101, 100]] = DataW.agg [y0.1, y1.1, y2.1] := hx
    injection hx' with hx'
    injection hx' with e0 hx'
    injection hx' with e1 hx'
    injection hx' with e2 _
    obtain ⟨y0a, y0b⟩ := y0
    obtain ⟨y1a, y1b⟩ := y1
    obtain ⟨y2a, y2b⟩ := y2
    subst e0 e1 e2
    obtain rfl := func_of_trod (f0 := 120) Tryd.underlying114 (by kernel_rfl) h0
    obtain rfl := func_of_trod (f0 := 121) Tryd.underlying114 (by kernel_rfl) h1
    obtain rfl := func_of_trod (f0 := 122) Tryd.underlying114 (by kernel_rfl) h2
    obtain ⟨⟨zero, ty⟩, hz, hty⟩ := Option.map_eq_some_iff.1 row0
    obtain rfl : ty = 115 := hty
    obtain ⟨cs, hb, _⟩ := hsh.1 0 zero 115 globals0 hz
    unfold World.var? at hv
    rw [gFates] at hv
    simp only [Option.bind_some, hb] at hv
    cases hv
    exact hb
theorem few_of {l0 : List Int} {l1 : List S47} {l2 : List S57} (h0 : l0.length * 8 ≤ 140737488351232) (h1 : l1.length * 40 ≤ 140737488351232) (h2 : l2.length * 40 ≤ 140737488351232) : Few l0 l1 l2 := ⟨by omega, by omega, by omega⟩
end
end Go.Proofs.YtegpepnmnlockaaDoor.PL
namespace Go.Proofs.YtegpepnmnlockaaDoor.PL
open Go.RowKit Go.ChangeShapes Go.WideShapes Go.Deep Go.Proofs.YtegpepnmnlockaaDoorW.PrintWords Go.Proofs.YtegpepnmnlockaaDoorW.PrintLast Go.Proofs.YtegpepnmnlockaaDoorW.PrintMore
set_option linter.unusedVariables false
set_option linter.unusedSimpArgs false
section
variable {H : Type} {enc : TypeId × Value → H}
set_option maxRecDepth 100000 in
theorem open35 {W : World} {v : Value} {d : DataW H} {p : List MemPlace} {r : Reach} {b : Nat} (hv : Value.okWide Tryd.prog W r b 35 v) (h : DataW.Trod enc Tryd.prog W 0 (fun _ => true) true 35 v d p) (hz : (d.weights Tryd.prog 35).all (· ≤ reachBytes) = true) :
    ∃ A c l, v = .slice A l.length c ∧ Kd.C k59 W A l.length l ∧ l.length ≤ c ∧ l.length * 16 ≤ 140737488351232 ∧ (∀ a ∈ l, W59 a) := by
  obtain ⟨a0, n0, c0, rfl⟩ := okWide_slice Tryd.underlying35 hv
  obtain ⟨n, hf⟩ := h
  have hex := rds35 W n _ _ hf hz
  generalize hR : reachBytes = R at hex
  obtain ⟨l, ⟨A, c, hcs, hl, hC⟩, hlen, hw⟩ := hex
  have hR' : R = 140737488351232 := hR.symm.trans (by kernel_rfl)
  have he : Value.slice a0 n0 c0 = .slice A l.length c := by
    have hcs' : [Value.slice a0 n0 c0] = [Value.slice A l.length c] := hcs
    exact (List.cons.inj hcs').1
  rw [← hR']
  exact ⟨A, c, l, he, hC, hl, hlen, hw⟩
end
end Go.Proofs.YtegpepnmnlockaaDoor.PL

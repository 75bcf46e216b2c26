/- Part 2 of a proof: what the last text rests on. -/
import Derived.Test.YtegpepnmnlockaaDoorXLackTime1
namespace Go.Proofs.YtegpepnmnlockaaDoor.PL
open Go.RowKit Go.Proofs.YtegpepnmnlockaaDoorW.PrintWords Go.Proofs.YtegpepnmnlockaaDoorW.PrintLast Go.Proofs.YtegpepnmnlockaaDoorW.PrintMore
attribute [local go_sem] max2_int min2_int max_two min_two max_three min_three max_four min_four   -- for this text's walks alone
set_option linter.unusedVariables false
set_option linter.unusedSimpArgs false
attribute [local go_sem high] eqA49
def wishbookref00_Match.l0 : Nat → List Int → List Int → Bool → Int → Option (Bool)
  | 0, _, _, _, _ => none
  | k + 1, x0, x1, x5, x6 => if x5 = true then (if x6 < (x0.length : Int) then (if 0 ≤ x6 then (if x6 < (x1.length : Int) then (wishbookref00_Match.l0 k x0 x1 ((rd x0 x6) == (rd x1 x6)) (wrap64 (x6 + 1))) else (none)) else (none)) else (some x5)) else (some x5)
def wishbookref00_Match.f (k : Nat) (l0 : List Int) (l1 : List Int) : Option (Bool) := wishbookref00_Match.l0 k l0 l1 ((l0.length : Int) == (l1.length : Int)) 0
theorem wishbookref00_Match.mono_l : ∀ k, (∀ y0 y1 y2 y3, LeO (wishbookref00_Match.l0 k y0 y1 y2 y3) (wishbookref00_Match.l0 (k + 1) y0 y1 y2 y3))
  | 0 => fun _ _ _ _ r h => by simp [wishbookref00_Match.l0] at h
  | k + 1 => by
    have ih0 := wishbookref00_Match.mono_l k
    · intro y0 y1 y2 y3
      unfold wishbookref00_Match.l0
      repeat' first
      | (with_reducible exact ih0 _ _ _ _)
      | (with_reducible exact LeO.refl _)
      | (with_reducible exact LeO.none _)
      | (with_reducible refine LeO.ite ?_ ?_)
      | (with_reducible refine LeO.bind ?_ (fun _ => ?_))
      | exact ih0 _ _ _ _
      | exact LeO.none _
      | refine LeO.ite ?_ ?_
      | refine LeO.bind ?_ (fun _ => ?_)
theorem wishbookref00_Match.mono : ∀ a0 a1 k, LeO (wishbookref00_Match.f k a0 a1) (wishbookref00_Match.f (k + 1) a0 a1) := by
  intro a0 a1 k
  have ih0 := wishbookref00_Match.mono_l k
  unfold wishbookref00_Match.f
  repeat' first
      | (with_reducible exact ih0 _ _ _ _)
      | (with_reducible exact LeO.refl _)
      | (with_reducible exact LeO.none _)
      | (with_reducible refine LeO.ite ?_ ?_)
      | (with_reducible refine LeO.bind ?_ (fun _ => ?_))
      | exact ih0 _ _ _ _
      | exact LeO.none _
      | refine LeO.ite ?_ ?_
      | refine LeO.bind ?_ (fun _ => ?_)
set_option maxHeartbeats 8000000 in
set_option maxRecDepth 100000 in
theorem wishbookref00_Match.calls (k : Nat) (A0 : Option Addr) (c0 : Nat) (l0 : List Int) (A1 : Option Addr) (c1 : Nat) (l1 : List Int) (r : Bool) (w : World) (hr0 : Kd.C (Kd.int .i64) w A0 l0.length l0) (hc0 : l0.length ≤ c0) (hr1 : Kd.C (Kd.int .i64) w A1 l1.length l1) (hc1 : l1.length ≤ c1) (h : wishbookref00_Match.f k l0 l1 = some r) :
    Calls Tryd.prog 16 #[.slice A0 l0.length c0, .slice A1 l1.length c1] w fun e w' => e = .returned (.bool r) ∧ Drawn0 w w' := by
  have HR0 := Aside0.mk hr0
  have HC0 := Aside0.mk hc0
  clear hr0 hc0
  have HR1 := Aside0.mk hr1
  have HC1 := Aside0.mk hc1
  clear hr1 hc1
  have H : (wishbookref00_Match.l0 k l0 l1 ((l0.length : Int) == (l1.length : Int)) 0) = some r := h
  clear h
  have H' := Aside0.mk H
  clear H
  go_enter Tryd.func16, Tryd.ntmps16
  go_wp2
  repeat (go_quiet (fail); try go_wp2)
  go_loopg [5, 6] k (fun kq v5 v6 w' => ∃ (x5_1 : Bool) (x6_1 : Int), v5 = .bool x5_1 ∧ v6 = .int .i64 x6_1 ∧ Aside0 (wishbookref00_Match.l0 kq l0 l1 x5_1 x6_1 = some r) ∧ Aside0 (kq ≤ k) ∧ Drawn0 w w')
  case atStart => exact ⟨(((l0.length : Int) == (l1.length : Int))), (0), (by first | rfl | (simp; done) | (simp [*]; done)), (by first | rfl | (simp; done) | (simp [*]; done)), H', ⟨Nat.le_refl _⟩, by repeat (first | exact Drawn0.refl _ | apply Drawn0.step)⟩
  case round =>
    clear H'
    try clear c1
    try clear p2
    obtain ⟨x5_1, x6_1, rfl, rfl, HA, HK1, ⟨m1, rfl⟩⟩ := hrel
    cases gk with
    | zero => exact absurd HA.out (by simp [wishbookref00_Match.l0])
    | succ k1 =>
      have H := HA.out
      clear HA
      simp only [wishbookref00_Match.l0] at H
      by_cases c3 : x5_1 = true
      · subst c3
        have H1 : (if x6_1 < (l0.length : Int) then (if 0 ≤ x6_1 then (if x6_1 < (l1.length : Int) then (wishbookref00_Match.l0 k1 l0 l1 ((rd l0 x6_1) == (rd l1 x6_1)) (wrap64 (x6_1 + 1))) else (none)) else (none)) else (some true)) = some r := by rw [if_pos rfl] at H; exact H
        clear H
        have H := H1
        clear H1
        by_cases c4 : x6_1 < (l0.length : Int)
        · rw [if_pos c4] at H
          have c4b0 : decide (x6_1 < (l0.length : Int)) = true := decide_eq_true c4
          clear c4
          by_cases c5 : 0 ≤ x6_1
          · rw [if_pos c5] at H
            have c5b0 : decide (0 ≤ x6_1) = true := decide_eq_true c5
            clear c5
            by_cases c6 : x6_1 < (l1.length : Int)
            · rw [if_pos c6] at H
              have c6b0 : decide (x6_1 < (l1.length : Int)) = true := decide_eq_true c6
              clear c6
              have H' := Aside0.mk H
              clear H
              have p145 : 0 ≤ (x6_1 : Int) := of_decide_eq_true (by first | (with_reducible assumption) | assumption)
              have q145 : x6_1 < (l0.length : Int) := of_decide_eq_true (by first | (with_reducible assumption) | assumption)
              obtain ⟨ad145, e145, hx145_0⟩ := Kd.at_int HR0.out x6_1 p145 q145
              cases e145
              replace p145 := eq_true p145
              replace q145 := eq_true q145
              have p146 : 0 ≤ (x6_1 : Int) := of_decide_eq_true (by first | (with_reducible assumption) | assumption)
              have q146 : x6_1 < (l1.length : Int) := of_decide_eq_true (by first | (with_reducible assumption) | assumption)
              obtain ⟨ad146, e146, hx146_0⟩ := Kd.at_int HR1.out x6_1 p146 q146
              cases e146
              replace p146 := eq_true p146
              replace q146 := eq_true q146
              go_wp2
              repeat (go_quiet (fail); try go_wp2)
              go_roundg k1
              case measure => have := HK1.out; omega
              case rel => exact ⟨(((rd l0 x6_1) == (rd l1 x6_1))), (wrap64 (x6_1 + 1)), (by first | rfl | (simp; done) | (simp [*]; done)), (by first | rfl | (simp; done) | (simp [*]; done)), H', ⟨by have := HK1.out; omega⟩, by repeat (first | exact Drawn0.refl _ | apply Drawn0.step)⟩
            · rw [if_neg c6] at H
              exact absurd H (by simp)
          · rw [if_neg c5] at H
            exact absurd H (by simp)
        · rw [if_neg c4] at H
          have c4b0 : decide (x6_1 < (l0.length : Int)) = false := decide_eq_false c4
          clear c4
          obtain rfl := Option.some.inj H
          go_wp2
          repeat (go_quiet (fail); try go_wp2)
          go_ret
          exact ⟨by first | rfl | (simp; done) | (simp [*]; done), by repeat (first | exact Drawn0.refl _ | apply Drawn0.step)⟩
      · replace c3 := Bool.eq_false_iff.mpr c3
        subst c3
        have H1 : (some false) = some r := by rw [if_neg (show ¬ (false = true) by decide)] at H; exact H
        clear H
        have H := H1
        clear H1
        obtain rfl := Option.some.inj H
        go_wp2
        repeat (go_quiet (fail); try go_wp2)
        go_ret
        exact ⟨by first | rfl | (simp; done) | (simp [*]; done), by repeat (first | exact Drawn0.refl _ | apply Drawn0.step)⟩
def wishbookref10_SameShares.l0 : Nat → List (S49) → List (S49) → Bool → Int → Option (Bool)
  | 0, _, _, _, _ => none
  | k + 1, x0, x1, x5, x6 => if x5 = true then (if x6 < (x0.length : Int) then (if 0 ≤ x6 then (if x6 < (x1.length : Int) then (wishbookref10_SameShares.l0 k x0 x1 (((rd_T49 x0 x6).f0) == ((rd_T49 x1 x6).f0) && (((rd_T49 x0 x6).f1) == ((rd_T49 x1 x6).f1) && (((rd_T49 x0 x6).f2) == ((rd_T49 x1 x6).f2) && (((rd_T49 x0 x6).f3) == ((rd_T49 x1 x6).f3))))) (wrap64 (x6 + 1))) else (none)) else (none)) else (some x5)) else (some x5)
def wishbookref10_SameShares.f (k : Nat) (l0 : List (S49)) (l1 : List (S49)) : Option (Bool) := wishbookref10_SameShares.l0 k l0 l1 ((l0.length : Int) == (l1.length : Int)) 0
theorem wishbookref10_SameShares.mono_l : ∀ k, (∀ y0 y1 y2 y3, LeO (wishbookref10_SameShares.l0 k y0 y1 y2 y3) (wishbookref10_SameShares.l0 (k + 1) y0 y1 y2 y3))
  | 0 => fun _ _ _ _ r h => by simp [wishbookref10_SameShares.l0] at h
  | k + 1 => by
    have ih0 := wishbookref10_SameShares.mono_l k
    · intro y0 y1 y2 y3
      unfold wishbookref10_SameShares.l0
      repeat' first
      | (with_reducible exact ih0 _ _ _ _)
      | (with_reducible exact LeO.refl _)
      | (with_reducible exact LeO.none _)
      | (with_reducible refine LeO.ite ?_ ?_)
      | (with_reducible refine LeO.bind ?_ (fun _ => ?_))
      | exact ih0 _ _ _ _
      | exact LeO.none _
      | refine LeO.ite ?_ ?_
      | refine LeO.bind ?_ (fun _ => ?_)
theorem wishbookref10_SameShares.mono : ∀ a0 a1 k, LeO (wishbookref10_SameShares.f k a0 a1) (wishbookref10_SameShares.f (k + 1) a0 a1) := by
  intro a0 a1 k
  have ih0 := wishbookref10_SameShares.mono_l k
  unfold wishbookref10_SameShares.f
  repeat' first
      | (with_reducible exact ih0 _ _ _ _)
      | (with_reducible exact LeO.refl _)
      | (with_reducible exact LeO.none _)
      | (with_reducible refine LeO.ite ?_ ?_)
      | (with_reducible refine LeO.bind ?_ (fun _ => ?_))
      | exact ih0 _ _ _ _
      | exact LeO.none _
      | refine LeO.ite ?_ ?_
      | refine LeO.bind ?_ (fun _ => ?_)
set_option maxHeartbeats 8000000 in
set_option maxRecDepth 100000 in
theorem wishbookref10_SameShares.calls (k : Nat) (A0 : Option Addr) (c0 : Nat) (l0 : List (S49)) (A1 : Option Addr) (c1 : Nat) (l1 : List (S49)) (r : Bool) (w : World) (hr0 : Kd.C k49 w A0 l0.length l0) (hc0 : l0.length ≤ c0) (hr1 : Kd.C k49 w A1 l1.length l1) (hc1 : l1.length ≤ c1) (h : wishbookref10_SameShares.f k l0 l1 = some r) :
    Calls Tryd.prog 37 #[.slice A0 l0.length c0, .slice A1 l1.length c1] w fun e w' => e = .returned (.bool r) ∧ Drawn0 w w' := by
  have hu49 := Tryd.underlying49
  have HR0 := Aside0.mk hr0
  have HC0 := Aside0.mk hc0
  clear hr0 hc0
  have HR1 := Aside0.mk hr1
  have HC1 := Aside0.mk hc1
  clear hr1 hc1
  have H : (wishbookref10_SameShares.l0 k l0 l1 ((l0.length : Int) == (l1.length : Int)) 0) = some r := h
  clear h
  have H' := Aside0.mk H
  clear H
  go_enter Tryd.func37, Tryd.ntmps37
  go_wp2
  repeat (go_quiet (fail); try go_wp2)
  go_loopg [5, 6] k (fun kq v5 v6 w' => ∃ (x5_1 : Bool) (x6_1 : Int), v5 = .bool x5_1 ∧ v6 = .int .i64 x6_1 ∧ Aside0 (wishbookref10_SameShares.l0 kq l0 l1 x5_1 x6_1 = some r) ∧ Aside0 (kq ≤ k) ∧ Drawn0 w w')
  case atStart => exact ⟨(((l0.length : Int) == (l1.length : Int))), (0), (by first | rfl | (simp; done) | (simp [*]; done)), (by first | rfl | (simp; done) | (simp [*]; done)), H', ⟨Nat.le_refl _⟩, by repeat (first | exact Drawn0.refl _ | apply Drawn0.step)⟩
  case round =>
    clear H'
    try clear c1
    try clear p2
    obtain ⟨x5_1, x6_1, rfl, rfl, HA, HK1, ⟨m1, rfl⟩⟩ := hrel
    cases gk with
    | zero => exact absurd HA.out (by simp [wishbookref10_SameShares.l0])
    | succ k1 =>
      have H := HA.out
      clear HA
      simp only [wishbookref10_SameShares.l0] at H
      by_cases c3 : x5_1 = true
      · subst c3
        have H1 : (if x6_1 < (l0.length : Int) then (if 0 ≤ x6_1 then (if x6_1 < (l1.length : Int) then (wishbookref10_SameShares.l0 k1 l0 l1 (((rd_T49 l0 x6_1).f0) == ((rd_T49 l1 x6_1).f0) && (((rd_T49 l0 x6_1).f1) == ((rd_T49 l1 x6_1).f1) && (((rd_T49 l0 x6_1).f2) == ((rd_T49 l1 x6_1).f2) && (((rd_T49 l0 x6_1).f3) == ((rd_T49 l1 x6_1).f3))))) (wrap64 (x6_1 + 1))) else (none)) else (none)) else (some true)) = some r := by rw [if_pos rfl] at H; exact H
        clear H
        have H := H1
        clear H1
        by_cases c4 : x6_1 < (l0.length : Int)
        · rw [if_pos c4] at H
          have c4b0 : decide (x6_1 < (l0.length : Int)) = true := decide_eq_true c4
          clear c4
          by_cases c5 : 0 ≤ x6_1
          · rw [if_pos c5] at H
            have c5b0 : decide (0 ≤ x6_1) = true := decide_eq_true c5
            clear c5
            by_cases c6 : x6_1 < (l1.length : Int)
            · rw [if_pos c6] at H
              have c6b0 : decide (x6_1 < (l1.length : Int)) = true := decide_eq_true c6
              clear c6
              have H' := Aside0.mk H
              clear H
              have p161 : 0 ≤ (x6_1 : Int) := of_decide_eq_true (by first | (with_reducible assumption) | assumption)
              have q161 : x6_1 < (l0.length : Int) := of_decide_eq_true (by first | (with_reducible assumption) | assumption)
              obtain ⟨ad161, e161, hx161_0, hx161_1, hx161_2, hx161_3⟩ := at_T49 HR0.out x6_1 p161 q161
              cases e161
              replace p161 := eq_true p161
              replace q161 := eq_true q161
              have p162 : 0 ≤ (x6_1 : Int) := of_decide_eq_true (by first | (with_reducible assumption) | assumption)
              have q162 : x6_1 < (l1.length : Int) := of_decide_eq_true (by first | (with_reducible assumption) | assumption)
              obtain ⟨ad162, e162, hx162_0, hx162_1, hx162_2, hx162_3⟩ := at_T49 HR1.out x6_1 p162 q162
              cases e162
              replace p162 := eq_true p162
              replace q162 := eq_true q162
              go_wp2
              repeat (go_quiet (fail); try go_wp2)
              go_roundg k1
              case measure => have := HK1.out; omega
              case rel => exact ⟨((((rd_T49 l0 x6_1).f0) == ((rd_T49 l1 x6_1).f0) && (((rd_T49 l0 x6_1).f1) == ((rd_T49 l1 x6_1).f1) && (((rd_T49 l0 x6_1).f2) == ((rd_T49 l1 x6_1).f2) && (((rd_T49 l0 x6_1).f3) == ((rd_T49 l1 x6_1).f3)))))), (wrap64 (x6_1 + 1)), (by first | rfl | (simp; done) | (simp [*]; done)), (by first | rfl | (simp; done) | (simp [*]; done)), H', ⟨by have := HK1.out; omega⟩, by repeat (first | exact Drawn0.refl _ | apply Drawn0.step)⟩
            · rw [if_neg c6] at H
              exact absurd H (by simp)
          · rw [if_neg c5] at H
            exact absurd H (by simp)
        · rw [if_neg c4] at H
          have c4b0 : decide (x6_1 < (l0.length : Int)) = false := decide_eq_false c4
          clear c4
          obtain rfl := Option.some.inj H
          go_wp2
          repeat (go_quiet (fail); try go_wp2)
          go_ret
          exact ⟨by first | rfl | (simp; done) | (simp [*]; done), by repeat (first | exact Drawn0.refl _ | apply Drawn0.step)⟩
      · replace c3 := Bool.eq_false_iff.mpr c3
        subst c3
        have H1 : (some false) = some r := by rw [if_neg (show ¬ (false = true) by decide)] at H; exact H
        clear H
        have H := H1
        clear H1
        obtain rfl := Option.some.inj H
        go_wp2
        repeat (go_quiet (fail); try go_wp2)
        go_ret
        exact ⟨by first | rfl | (simp; done) | (simp [*]; done), by repeat (first | exact Drawn0.refl _ | apply Drawn0.step)⟩
def wishbookref00_To.f (a0 : Int) (a1 : Int) : Option (Int × Int) := some (a0, a1)
set_option maxHeartbeats 8000000 in
set_option maxRecDepth 100000 in
theorem wishbookref00_To.calls (a0 : Int) (a1 : Int) (r1 : Int) (r2 : Int) (w : World) (h : wishbookref00_To.f a0 a1 = some (r1, r2)) :
    Calls Tryd.prog 40 #[.int .i64 a0, .int .i64 a1] w fun e w' => e = .returned (.agg #[.int .i64 r1, .int .i64 r2]) ∧ Below w.heap.size w w' := by
  have hu55 := Tryd.underlying55
  have HB := Aside0.mk (Below.refl w.heap.size w)
  have H : (some (a0, a1)) = some (r1, r2) := h
  clear h
  simp only [Option.some.injEq, Prod.mk.injEq] at H
  obtain ⟨rfl, rfl⟩ := H
  go_enter Tryd.func40, Tryd.ntmps40
  go_wp2_with (first | ((with_reducible refine gate_dst (N := 4) rfl ?_); refine box_event ?hg (N := 4) ?hd (cs := #[.int .i64 0, .int .i64 0]) (t := 55) ?hr ?_; (case hd => rfl); (case hg => rfl); (case hr => first | (go_simp; done) | (go_simp; rfl)); intro gb163 hg w3 hbox hb; have n0_ := Aside0.mk (below_step (by repeat (first | (with_reducible first | exact HB.out | apply below_alloc | apply pw_below_drewN | apply below_drew1) | exact HB.out)) hb); have n1_ := Aside0.mk (hbox); have n2_ := Aside0.mk ((by rw [hg]; exact (below_size (by repeat (first | (with_reducible first | exact HB.out | apply below_alloc | apply pw_below_drewN | apply below_drew1) | exact HB.out))) : w.heap.size ≤ gb163)); have n3_ := Aside0.mk ((by rw [hg]; exact (below_size (by repeat (first | (with_reducible first | exact HB.out | apply below_alloc | apply pw_below_drewN | apply below_drew1) | exact HB.out))) : w.heap.size ≤ gb163)); clear HB; have HB := n0_; have BK163 := n1_; have GW163 := n2_; have GE163 := n3_; clear n0_ n1_ n2_ n3_; clear hb hbox hg; have hcz4_0 : w3.cell? ⟨gb163, 0, none⟩ = some (.int .i64 0) := (blk_cell BK163.out 0).trans rfl; have hcz4_1 : w3.cell? ⟨gb163, 1, none⟩ = some (.int .i64 0) := (blk_cell BK163.out 1).trans rfl; have hfz4_0 := blk_frozen BK163.out 0; have hfz4_1 := blk_frozen BK163.out 1))
  refine bodyPost_ret (results_cell_row rfl _ _ gb163 55 #[.int .i64 a0, .int .i64 a1] (0, 0) _ rfl (by (with_reducible repeat (first | refine blk_drewN ?_ _ | refine blk_drew ?_ | refine blk_alloc ?_ _)); refine blk_put (cs := #[.int .i64 a0, .int .i64 0]) ?_ 1 _ rfl; (with_reducible repeat (first | refine blk_drewN ?_ _ | refine blk_drew ?_ | refine blk_alloc ?_ _)); refine blk_put (cs := #[.int .i64 0, .int .i64 0]) ?_ 0 _ rfl; (with_reducible repeat (first | refine blk_drewN ?_ _ | refine blk_drew ?_ | refine blk_alloc ?_ _)); exact BK163.out) Tryd.underlying55 rfl (by kernel_rfl)) rfl ?_
  exact ⟨by first | rfl | (simp [errW_none, errW_some] <;> rfl) | (simp [*, errW_none, errW_some] <;> rfl), by repeat (first | (with_reducible first | exact HB.out | apply below_alloc | apply pw_below_drewN | apply below_drew1 | refine below_set ?_ GE163.out) | exact HB.out)⟩
def wishbooklaw10_delivery.f (a0 : Int) (a1 : Int) (a2 : Int) (a3 : Int) (a4 : Int) : Option (Int × Int × Int × Int × Int) := (wishbookref00_To.f a1 a2).bind fun bt165 => ((wishbookref00_To.f a3 a4).bind fun bt167 => (some (a0, bt165.1, bt165.2, bt167.1, bt167.2)))
set_option maxHeartbeats 8000000 in
set_option maxRecDepth 100000 in
theorem wishbooklaw10_delivery.calls (a0 : Int) (a1 : Int) (a2 : Int) (a3 : Int) (a4 : Int) (r1 : Int) (r2 : Int) (r3 : Int) (r4 : Int) (r5 : Int) (w : World) (h : wishbooklaw10_delivery.f a0 a1 a2 a3 a4 = some (r1, r2, r3, r4, r5)) :
    Calls Tryd.prog 39 #[.int .i64 a0, .int .i64 a1, .int .i64 a2, .int .i64 a3, .int .i64 a4] w fun e w' => e = .returned (.agg #[.int .i64 r1, .int .i64 r2, .int .i64 r3, .int .i64 r4, .int .i64 r5]) ∧ Below w.heap.size w w' := by
  have hu57 := Tryd.underlying57
  have HB := Aside0.mk (Below.refl w.heap.size w)
  have H : ((wishbookref00_To.f a1 a2).bind fun bt165 => ((wishbookref00_To.f a3 a4).bind fun bt167 => (some (a0, bt165.1, bt165.2, bt167.1, bt167.2)))) = some (r1, r2, r3, r4, r5) := h
  clear h
  replace H := Option.bind_eq_some_iff.mp H
  obtain ⟨⟨t165, t166⟩, A60, H⟩ := H
  replace H : ((wishbookref00_To.f a3 a4).bind fun bt167 => (some (a0, t165, t166, bt167.1, bt167.2))) = some (r1, r2, r3, r4, r5) := H
  have A6 := Aside0.mk A60
  clear A60
  replace H := Option.bind_eq_some_iff.mp H
  obtain ⟨⟨t167, t168⟩, A70, H⟩ := H
  replace H : (some (a0, t165, t166, t167, t168)) = some (r1, r2, r3, r4, r5) := H
  have A7 := Aside0.mk A70
  clear A70
  simp only [Option.some.injEq, Prod.mk.injEq] at H
  obtain ⟨rfl, rfl, rfl, rfl, rfl⟩ := H
  go_enter Tryd.func39, Tryd.ntmps39
  go_wp2_with (first | ((with_reducible refine gate_dst (N := 10) rfl ?_); refine box_event ?hg (N := 10) ?hd (cs := #[.int .i64 0, .int .i64 0, .int .i64 0, .int .i64 0, .int .i64 0]) (t := 57) ?hr ?_; (case hd => rfl); (case hg => rfl); (case hr => first | (go_simp; done) | (go_simp; rfl)); intro gb164 hg w8 hbox hb; have n0_ := Aside0.mk (below_step (by repeat (first | (with_reducible first | exact HB.out | apply below_alloc | apply pw_below_drewN | apply below_drew1) | exact HB.out)) hb); have n1_ := Aside0.mk (hbox); have n2_ := Aside0.mk ((by rw [hg]; exact (below_size (by repeat (first | (with_reducible first | exact HB.out | apply below_alloc | apply pw_below_drewN | apply below_drew1) | exact HB.out))) : w.heap.size ≤ gb164)); have n3_ := Aside0.mk ((by rw [hg]; exact (below_size (by repeat (first | (with_reducible first | exact HB.out | apply below_alloc | apply pw_below_drewN | apply below_drew1) | exact HB.out))) : w.heap.size ≤ gb164)); clear HB; have HB := n0_; have BK164 := n1_; have GW164 := n2_; have GE164 := n3_; clear n0_ n1_ n2_ n3_; clear hb hbox hg) | ((with_reducible refine gate_callee (f := 40) rfl ?_); refine goesL_ (some 14) rfl rfl Tryd.func40 (by kernel_rfl) rfl #[.int .i64 a1, .int .i64 a2] rfl (by (try simp only [List.map_toArray, List.map_cons, List.map_nil]); first | done | rfl | (simp only [List.length_drop, List.length_take]; rfl)) ?_; (with_reducible refine (wishbookref00_To.calls a1 a2 t165 t166 _ A6.out).mono ?_); rintro e w9 ⟨rfl, hb⟩; refine ⟨_, rfl, ?_⟩; have n0_ := Aside0.mk (blk_below (g := gb164) (o := .cells #[.int .i64 0, .int .i64 0, .int .i64 0, .int .i64 0, .int .i64 0] 57 (0, 0)) (by (with_reducible repeat (first | refine blk_drewN ?_ _ | refine blk_drew ?_ | refine blk_alloc ?_ _)); exact BK164.out) hb); have n1_ := Aside0.mk (below_step (by repeat (first | (with_reducible first | exact HB.out | apply below_alloc | apply pw_below_drewN | apply below_drew1 | refine below_set ?_ GE164.out) | exact HB.out)) hb); clear BK164; clear HB; have BK164 := n0_; have HB := n1_; clear n0_ n1_; (try clear hb); (try clear hb2); (try clear hk); (try clear hi)) | ((with_reducible refine gate_callee (f := 40) rfl ?_); refine goesL_ (some 17) rfl rfl Tryd.func40 (by kernel_rfl) rfl #[.int .i64 a3, .int .i64 a4] rfl (by (try simp only [List.map_toArray, List.map_cons, List.map_nil]); first | done | rfl | (simp only [List.length_drop, List.length_take]; rfl)) ?_; (with_reducible refine (wishbookref00_To.calls a3 a4 t167 t168 _ A7.out).mono ?_); rintro e w10 ⟨rfl, hb⟩; refine ⟨_, rfl, ?_⟩; have n0_ := Aside0.mk (blk_below (g := gb164) (o := .cells #[.int .i64 0, .int .i64 0, .int .i64 0, .int .i64 0, .int .i64 0] 57 (0, 0)) (by (with_reducible repeat (first | refine blk_drewN ?_ _ | refine blk_drew ?_ | refine blk_alloc ?_ _)); exact BK164.out) hb); have n1_ := Aside0.mk (below_step (by repeat (first | (with_reducible first | exact HB.out | apply below_alloc | apply pw_below_drewN | apply below_drew1 | refine below_set ?_ GE164.out) | exact HB.out)) hb); clear BK164; clear HB; have BK164 := n0_; have HB := n1_; clear n0_ n1_; (try clear hb); (try clear hb2); (try clear hk); (try clear hi); have hcz11_0 : w10.cell? ⟨gb164, 0, none⟩ = some (.int .i64 0) := (blk_cell BK164.out 0).trans rfl; have hcz11_1 : w10.cell? ⟨gb164, 1, none⟩ = some (.int .i64 0) := (blk_cell BK164.out 1).trans rfl; have hcz11_2 : w10.cell? ⟨gb164, 2, none⟩ = some (.int .i64 0) := (blk_cell BK164.out 2).trans rfl; have hcz11_3 : w10.cell? ⟨gb164, 3, none⟩ = some (.int .i64 0) := (blk_cell BK164.out 3).trans rfl; have hcz11_4 : w10.cell? ⟨gb164, 4, none⟩ = some (.int .i64 0) := (blk_cell BK164.out 4).trans rfl; have hfz11_0 := blk_frozen BK164.out 0; have hfz11_1 := blk_frozen BK164.out 1; have hfz11_2 := blk_frozen BK164.out 2; have hfz11_3 := blk_frozen BK164.out 3; have hfz11_4 := blk_frozen BK164.out 4))
  refine bodyPost_ret (results_cell_row rfl _ _ gb164 57 #[.int .i64 a0, .int .i64 t165, .int .i64 t166, .int .i64 t167, .int .i64 t168] (0, 0) _ rfl (by (with_reducible repeat (first | refine blk_drewN ?_ _ | refine blk_drew ?_ | refine blk_alloc ?_ _)); refine blk_put (cs := #[.int .i64 a0, .int .i64 t165, .int .i64 t166, .int .i64 t167, .int .i64 0]) ?_ 4 _ rfl; (with_reducible repeat (first | refine blk_drewN ?_ _ | refine blk_drew ?_ | refine blk_alloc ?_ _)); refine blk_put (cs := #[.int .i64 a0, .int .i64 t165, .int .i64 t166, .int .i64 0, .int .i64 0]) ?_ 3 _ rfl; (with_reducible repeat (first | refine blk_drewN ?_ _ | refine blk_drew ?_ | refine blk_alloc ?_ _)); refine blk_put (cs := #[.int .i64 a0, .int .i64 t165, .int .i64 0, .int .i64 0, .int .i64 0]) ?_ 2 _ rfl; (with_reducible repeat (first | refine blk_drewN ?_ _ | refine blk_drew ?_ | refine blk_alloc ?_ _)); refine blk_put (cs := #[.int .i64 a0, .int .i64 0, .int .i64 0, .int .i64 0, .int .i64 0]) ?_ 1 _ rfl; (with_reducible repeat (first | refine blk_drewN ?_ _ | refine blk_drew ?_ | refine blk_alloc ?_ _)); refine blk_put (cs := #[.int .i64 0, .int .i64 0, .int .i64 0, .int .i64 0, .int .i64 0]) ?_ 0 _ rfl; (with_reducible repeat (first | refine blk_drewN ?_ _ | refine blk_drew ?_ | refine blk_alloc ?_ _)); exact BK164.out) Tryd.underlying57 rfl (by kernel_rfl)) rfl ?_
  exact ⟨by first | rfl | (simp [errW_none, errW_some] <;> rfl) | (simp [*, errW_none, errW_some] <;> rfl), by repeat (first | (with_reducible first | exact HB.out | apply below_alloc | apply pw_below_drewN | apply below_drew1 | refine below_set ?_ GE164.out) | exact HB.out)⟩
def wishbooklaw10_line.f (a0 : Int) (a1 : Int) (a2 : Int) (a3 : Int) (a4 : Int) : Option (Int × Int × Int × Int × Int) := some (a0, a1, a2, a3, a4)
set_option maxHeartbeats 8000000 in
set_option maxRecDepth 100000 in
theorem wishbooklaw10_line.calls (a0 : Int) (a1 : Int) (a2 : Int) (a3 : Int) (a4 : Int) (r1 : Int) (r2 : Int) (r3 : Int) (r4 : Int) (r5 : Int) (w : World) (h : wishbooklaw10_line.f a0 a1 a2 a3 a4 = some (r1, r2, r3, r4, r5)) :
    Calls Tryd.prog 68 #[.int .i64 a0, .int .i64 a1, .int .i64 a2, .int .i64 a3, .int .i64 a4] w fun e w' => e = .returned (.agg #[.int .i64 r1, .int .i64 r2, .int .i64 r3, .int .i64 r4, .int .i64 r5]) ∧ Below w.heap.size w w' := by
  have hu47 := Tryd.underlying47
  have HB := Aside0.mk (Below.refl w.heap.size w)
  have H : (some (a0, a1, a2, a3, a4)) = some (r1, r2, r3, r4, r5) := h
  clear h
  simp only [Option.some.injEq, Prod.mk.injEq] at H
  obtain ⟨rfl, rfl, rfl, rfl, rfl⟩ := H
  go_enter Tryd.func68, Tryd.ntmps68
  go_wp2_with (first | ((with_reducible refine gate_dst (N := 10) rfl ?_); refine box_event ?hg (N := 10) ?hd (cs := #[.int .i64 0, .int .i64 0, .int .i64 0, .int .i64 0, .int .i64 0]) (t := 47) ?hr ?_; (case hd => rfl); (case hg => rfl); (case hr => first | (go_simp; done) | (go_simp; rfl)); intro gb169 hg w6 hbox hb; have n0_ := Aside0.mk (below_step (by repeat (first | (with_reducible first | exact HB.out | apply below_alloc | apply pw_below_drewN | apply below_drew1) | exact HB.out)) hb); have n1_ := Aside0.mk (hbox); have n2_ := Aside0.mk ((by rw [hg]; exact (below_size (by repeat (first | (with_reducible first | exact HB.out | apply below_alloc | apply pw_below_drewN | apply below_drew1) | exact HB.out))) : w.heap.size ≤ gb169)); have n3_ := Aside0.mk ((by rw [hg]; exact (below_size (by repeat (first | (with_reducible first | exact HB.out | apply below_alloc | apply pw_below_drewN | apply below_drew1) | exact HB.out))) : w.heap.size ≤ gb169)); clear HB; have HB := n0_; have BK169 := n1_; have GW169 := n2_; have GE169 := n3_; clear n0_ n1_ n2_ n3_; clear hb hbox hg; have hcz7_0 : w6.cell? ⟨gb169, 0, none⟩ = some (.int .i64 0) := (blk_cell BK169.out 0).trans rfl; have hcz7_1 : w6.cell? ⟨gb169, 1, none⟩ = some (.int .i64 0) := (blk_cell BK169.out 1).trans rfl; have hcz7_2 : w6.cell? ⟨gb169, 2, none⟩ = some (.int .i64 0) := (blk_cell BK169.out 2).trans rfl; have hcz7_3 : w6.cell? ⟨gb169, 3, none⟩ = some (.int .i64 0) := (blk_cell BK169.out 3).trans rfl; have hcz7_4 : w6.cell? ⟨gb169, 4, none⟩ = some (.int .i64 0) := (blk_cell BK169.out 4).trans rfl; have hfz7_0 := blk_frozen BK169.out 0; have hfz7_1 := blk_frozen BK169.out 1; have hfz7_2 := blk_frozen BK169.out 2; have hfz7_3 := blk_frozen BK169.out 3; have hfz7_4 := blk_frozen BK169.out 4))
  refine bodyPost_ret (results_cell_row rfl _ _ gb169 47 #[.int .i64 a0, .int .i64 a1, .int .i64 a2, .int .i64 a3, .int .i64 a4] (0, 0) _ rfl (by (with_reducible repeat (first | refine blk_drewN ?_ _ | refine blk_drew ?_ | refine blk_alloc ?_ _)); refine blk_put (cs := #[.int .i64 a0, .int .i64 a1, .int .i64 a2, .int .i64 a3, .int .i64 0]) ?_ 4 _ rfl; (with_reducible repeat (first | refine blk_drewN ?_ _ | refine blk_drew ?_ | refine blk_alloc ?_ _)); refine blk_put (cs := #[.int .i64 a0, .int .i64 a1, .int .i64 a2, .int .i64 0, .int .i64 0]) ?_ 3 _ rfl; (with_reducible repeat (first | refine blk_drewN ?_ _ | refine blk_drew ?_ | refine blk_alloc ?_ _)); refine blk_put (cs := #[.int .i64 a0, .int .i64 a1, .int .i64 0, .int .i64 0, .int .i64 0]) ?_ 2 _ rfl; (with_reducible repeat (first | refine blk_drewN ?_ _ | refine blk_drew ?_ | refine blk_alloc ?_ _)); refine blk_put (cs := #[.int .i64 a0, .int .i64 0, .int .i64 0, .int .i64 0, .int .i64 0]) ?_ 1 _ rfl; (with_reducible repeat (first | refine blk_drewN ?_ _ | refine blk_drew ?_ | refine blk_alloc ?_ _)); refine blk_put (cs := #[.int .i64 0, .int .i64 0, .int .i64 0, .int .i64 0, .int .i64 0]) ?_ 0 _ rfl; (with_reducible repeat (first | refine blk_drewN ?_ _ | refine blk_drew ?_ | refine blk_alloc ?_ _)); exact BK169.out) Tryd.underlying47 rfl (by kernel_rfl)) rfl ?_
  exact ⟨by first | rfl | (simp [errW_none, errW_some] <;> rfl) | (simp [*, errW_none, errW_some] <;> rfl), by repeat (first | (with_reducible first | exact HB.out | apply below_alloc | apply pw_below_drewN | apply below_drew1 | refine below_set ?_ GE169.out) | exact HB.out)⟩
def wishbooklaw10_book.f  : Option (List Int × (List (S47)) × (List (S57))) := (wishbooklaw10_line.f 0 0 3 10 (-1)).bind fun bt174 => ((wishbooklaw10_line.f 0 1 4 20 0).bind fun bt179 => ((wishbooklaw10_line.f 1 2 6 30 (-1)).bind fun bt184 => ((wishbooklaw10_line.f 2 2 5 15 (-1)).bind fun bt189 => ((wishbooklaw10_line.f 2 0 2 40 (-1)).bind fun bt194 => ((wishbooklaw10_delivery.f 2 5 12 4 6).bind fun bt202 => ((wishbooklaw10_delivery.f 2 20 28 3 9).bind fun bt207 => ((wishbooklaw10_delivery.f 0 30 35 1 1).bind fun bt212 => (some ((([5, 2, 0] : List Int)), (([(⟨bt174.1, bt174.2.1, bt174.2.2.1, bt174.2.2.2.1, bt174.2.2.2.2⟩ : S47), (⟨bt179.1, bt179.2.1, bt179.2.2.1, bt179.2.2.2.1, bt179.2.2.2.2⟩ : S47), (⟨bt184.1, bt184.2.1, bt184.2.2.1, bt184.2.2.2.1, bt184.2.2.2.2⟩ : S47), (⟨bt189.1, bt189.2.1, bt189.2.2.1, bt189.2.2.2.1, bt189.2.2.2.2⟩ : S47), (⟨bt194.1, bt194.2.1, bt194.2.2.1, bt194.2.2.2.1, bt194.2.2.2.2⟩ : S47)] : List (S47))), (([(⟨bt202.1, (⟨bt202.2.1, bt202.2.2.1⟩ : S55), (⟨bt202.2.2.2.1, bt202.2.2.2.2⟩ : S55)⟩ : S57), (⟨bt207.1, (⟨bt207.2.1, bt207.2.2.1⟩ : S55), (⟨bt207.2.2.2.1, bt207.2.2.2.2⟩ : S55)⟩ : S57), (⟨bt212.1, (⟨bt212.2.1, bt212.2.2.1⟩ : S55), (⟨bt212.2.2.2.1, bt212.2.2.2.2⟩ : S55)⟩ : S57)] : List (S57))))))))))))
set_option maxHeartbeats 8000000 in
set_option maxRecDepth 100000 in
theorem wishbooklaw10_book.calls  (r1 : List Int) (r2 : List (S47)) (r3 : List (S57)) (w : World) (h : wishbooklaw10_book.f  = some (r1, r2, r3)) :
    Calls Tryd.prog 43 #[] w fun e w' => ∃ v0_ v1_ v2_ : Value, e = .returned (.agg #[v0_, v1_, v2_]) ∧ Kd.R (Kd.int .i64) 3 w' w.heap.size (fun _ => True) v0_ r1 ∧ Kd.R k47 47 w' w.heap.size (fun _ => True) v1_ r2 ∧ Kd.R k57 57 w' w.heap.size (fun _ => True) v2_ r3 ∧ Below w.heap.size w w' := by
  have hu26 := Tryd.underlying26
  have HB := Aside0.mk (Below.refl w.heap.size w)
  have H : ((wishbooklaw10_line.f 0 0 3 10 (-1)).bind fun bt174 => ((wishbooklaw10_line.f 0 1 4 20 0).bind fun bt179 => ((wishbooklaw10_line.f 1 2 6 30 (-1)).bind fun bt184 => ((wishbooklaw10_line.f 2 2 5 15 (-1)).bind fun bt189 => ((wishbooklaw10_line.f 2 0 2 40 (-1)).bind fun bt194 => ((wishbooklaw10_delivery.f 2 5 12 4 6).bind fun bt202 => ((wishbooklaw10_delivery.f 2 20 28 3 9).bind fun bt207 => ((wishbooklaw10_delivery.f 0 30 35 1 1).bind fun bt212 => (some ((([5, 2, 0] : List Int)), (([(⟨bt174.1, bt174.2.1, bt174.2.2.1, bt174.2.2.2.1, bt174.2.2.2.2⟩ : S47), (⟨bt179.1, bt179.2.1, bt179.2.2.1, bt179.2.2.2.1, bt179.2.2.2.2⟩ : S47), (⟨bt184.1, bt184.2.1, bt184.2.2.1, bt184.2.2.2.1, bt184.2.2.2.2⟩ : S47), (⟨bt189.1, bt189.2.1, bt189.2.2.1, bt189.2.2.2.1, bt189.2.2.2.2⟩ : S47), (⟨bt194.1, bt194.2.1, bt194.2.2.1, bt194.2.2.2.1, bt194.2.2.2.2⟩ : S47)] : List (S47))), (([(⟨bt202.1, (⟨bt202.2.1, bt202.2.2.1⟩ : S55), (⟨bt202.2.2.2.1, bt202.2.2.2.2⟩ : S55)⟩ : S57), (⟨bt207.1, (⟨bt207.2.1, bt207.2.2.1⟩ : S55), (⟨bt207.2.2.2.1, bt207.2.2.2.2⟩ : S55)⟩ : S57), (⟨bt212.1, (⟨bt212.2.1, bt212.2.2.1⟩ : S55), (⟨bt212.2.2.2.1, bt212.2.2.2.2⟩ : S55)⟩ : S57)] : List (S57))))))))))))) = some (r1, r2, r3) := h
  clear h
  obtain ⟨y171, hy171⟩ : ∃ y_ : List Int, y_ = (([5, 2, 0] : List Int)) := ⟨_, rfl⟩
  replace H : ((wishbooklaw10_line.f 0 0 3 10 (-1)).bind fun bt174 => ((wishbooklaw10_line.f 0 1 4 20 0).bind fun bt179 => ((wishbooklaw10_line.f 1 2 6 30 (-1)).bind fun bt184 => ((wishbooklaw10_line.f 2 2 5 15 (-1)).bind fun bt189 => ((wishbooklaw10_line.f 2 0 2 40 (-1)).bind fun bt194 => ((wishbooklaw10_delivery.f 2 5 12 4 6).bind fun bt202 => ((wishbooklaw10_delivery.f 2 20 28 3 9).bind fun bt207 => ((wishbooklaw10_delivery.f 0 30 35 1 1).bind fun bt212 => (some (y171, (([(⟨bt174.1, bt174.2.1, bt174.2.2.1, bt174.2.2.2.1, bt174.2.2.2.2⟩ : S47), (⟨bt179.1, bt179.2.1, bt179.2.2.1, bt179.2.2.2.1, bt179.2.2.2.2⟩ : S47), (⟨bt184.1, bt184.2.1, bt184.2.2.1, bt184.2.2.2.1, bt184.2.2.2.2⟩ : S47), (⟨bt189.1, bt189.2.1, bt189.2.2.1, bt189.2.2.2.1, bt189.2.2.2.2⟩ : S47), (⟨bt194.1, bt194.2.1, bt194.2.2.1, bt194.2.2.2.1, bt194.2.2.2.2⟩ : S47)] : List (S47))), (([(⟨bt202.1, (⟨bt202.2.1, bt202.2.2.1⟩ : S55), (⟨bt202.2.2.2.1, bt202.2.2.2.2⟩ : S55)⟩ : S57), (⟨bt207.1, (⟨bt207.2.1, bt207.2.2.1⟩ : S55), (⟨bt207.2.2.2.1, bt207.2.2.2.2⟩ : S55)⟩ : S57), (⟨bt212.1, (⟨bt212.2.1, bt212.2.2.1⟩ : S55), (⟨bt212.2.2.2.1, bt212.2.2.2.2⟩ : S55)⟩ : S57)] : List (S57))))))))))))) = some (r1, r2, r3) := by first | (rw [hy171]; with_reducible exact H) | (have H2_ := (Option.bind_some _ _).symm.trans H; rw [hy171]; with_reducible exact H2_) | (have H2_ := (Option.bind_some _ _).symm.trans H; with_reducible exact H2_) | with_reducible exact H | (rw [hy171]; exact H) | exact H
  have Ny171 := Aside0.mk hy171
  clear hy171
  replace H := Option.bind_eq_some_iff.mp H
  obtain ⟨⟨t174, t175, t176, t177, t178⟩, A10, H⟩ := H
  replace H : ((wishbooklaw10_line.f 0 1 4 20 0).bind fun bt179 => ((wishbooklaw10_line.f 1 2 6 30 (-1)).bind fun bt184 => ((wishbooklaw10_line.f 2 2 5 15 (-1)).bind fun bt189 => ((wishbooklaw10_line.f 2 0 2 40 (-1)).bind fun bt194 => ((wishbooklaw10_delivery.f 2 5 12 4 6).bind fun bt202 => ((wishbooklaw10_delivery.f 2 20 28 3 9).bind fun bt207 => ((wishbooklaw10_delivery.f 0 30 35 1 1).bind fun bt212 => (some (y171, (([(⟨t174, t175, t176, t177, t178⟩ : S47), (⟨bt179.1, bt179.2.1, bt179.2.2.1, bt179.2.2.2.1, bt179.2.2.2.2⟩ : S47), (⟨bt184.1, bt184.2.1, bt184.2.2.1, bt184.2.2.2.1, bt184.2.2.2.2⟩ : S47), (⟨bt189.1, bt189.2.1, bt189.2.2.1, bt189.2.2.2.1, bt189.2.2.2.2⟩ : S47), (⟨bt194.1, bt194.2.1, bt194.2.2.1, bt194.2.2.2.1, bt194.2.2.2.2⟩ : S47)] : List (S47))), (([(⟨bt202.1, (⟨bt202.2.1, bt202.2.2.1⟩ : S55), (⟨bt202.2.2.2.1, bt202.2.2.2.2⟩ : S55)⟩ : S57), (⟨bt207.1, (⟨bt207.2.1, bt207.2.2.1⟩ : S55), (⟨bt207.2.2.2.1, bt207.2.2.2.2⟩ : S55)⟩ : S57), (⟨bt212.1, (⟨bt212.2.1, bt212.2.2.1⟩ : S55), (⟨bt212.2.2.2.1, bt212.2.2.2.2⟩ : S55)⟩ : S57)] : List (S57)))))))))))) = some (r1, r2, r3) := H
  have A1 := Aside0.mk A10
  clear A10
  replace H := Option.bind_eq_some_iff.mp H
  obtain ⟨⟨t179, t180, t181, t182, t183⟩, A20, H⟩ := H
  replace H : ((wishbooklaw10_line.f 1 2 6 30 (-1)).bind fun bt184 => ((wishbooklaw10_line.f 2 2 5 15 (-1)).bind fun bt189 => ((wishbooklaw10_line.f 2 0 2 40 (-1)).bind fun bt194 => ((wishbooklaw10_delivery.f 2 5 12 4 6).bind fun bt202 => ((wishbooklaw10_delivery.f 2 20 28 3 9).bind fun bt207 => ((wishbooklaw10_delivery.f 0 30 35 1 1).bind fun bt212 => (some (y171, (([(⟨t174, t175, t176, t177, t178⟩ : S47), (⟨t179, t180, t181, t182, t183⟩ : S47), (⟨bt184.1, bt184.2.1, bt184.2.2.1, bt184.2.2.2.1, bt184.2.2.2.2⟩ : S47), (⟨bt189.1, bt189.2.1, bt189.2.2.1, bt189.2.2.2.1, bt189.2.2.2.2⟩ : S47), (⟨bt194.1, bt194.2.1, bt194.2.2.1, bt194.2.2.2.1, bt194.2.2.2.2⟩ : S47)] : List (S47))), (([(⟨bt202.1, (⟨bt202.2.1, bt202.2.2.1⟩ : S55), (⟨bt202.2.2.2.1, bt202.2.2.2.2⟩ : S55)⟩ : S57), (⟨bt207.1, (⟨bt207.2.1, bt207.2.2.1⟩ : S55), (⟨bt207.2.2.2.1, bt207.2.2.2.2⟩ : S55)⟩ : S57), (⟨bt212.1, (⟨bt212.2.1, bt212.2.2.1⟩ : S55), (⟨bt212.2.2.2.1, bt212.2.2.2.2⟩ : S55)⟩ : S57)] : List (S57))))))))))) = some (r1, r2, r3) := H
  have A2 := Aside0.mk A20
  clear A20
  replace H := Option.bind_eq_some_iff.mp H
  obtain ⟨⟨t184, t185, t186, t187, t188⟩, A30, H⟩ := H
  replace H : ((wishbooklaw10_line.f 2 2 5 15 (-1)).bind fun bt189 => ((wishbooklaw10_line.f 2 0 2 40 (-1)).bind fun bt194 => ((wishbooklaw10_delivery.f 2 5 12 4 6).bind fun bt202 => ((wishbooklaw10_delivery.f 2 20 28 3 9).bind fun bt207 => ((wishbooklaw10_delivery.f 0 30 35 1 1).bind fun bt212 => (some (y171, (([(⟨t174, t175, t176, t177, t178⟩ : S47), (⟨t179, t180, t181, t182, t183⟩ : S47), (⟨t184, t185, t186, t187, t188⟩ : S47), (⟨bt189.1, bt189.2.1, bt189.2.2.1, bt189.2.2.2.1, bt189.2.2.2.2⟩ : S47), (⟨bt194.1, bt194.2.1, bt194.2.2.1, bt194.2.2.2.1, bt194.2.2.2.2⟩ : S47)] : List (S47))), (([(⟨bt202.1, (⟨bt202.2.1, bt202.2.2.1⟩ : S55), (⟨bt202.2.2.2.1, bt202.2.2.2.2⟩ : S55)⟩ : S57), (⟨bt207.1, (⟨bt207.2.1, bt207.2.2.1⟩ : S55), (⟨bt207.2.2.2.1, bt207.2.2.2.2⟩ : S55)⟩ : S57), (⟨bt212.1, (⟨bt212.2.1, bt212.2.2.1⟩ : S55), (⟨bt212.2.2.2.1, bt212.2.2.2.2⟩ : S55)⟩ : S57)] : List (S57)))))))))) = some (r1, r2, r3) := H
  have A3 := Aside0.mk A30
  clear A30
  replace H := Option.bind_eq_some_iff.mp H
  obtain ⟨⟨t189, t190, t191, t192, t193⟩, A40, H⟩ := H
  replace H : ((wishbooklaw10_line.f 2 0 2 40 (-1)).bind fun bt194 => ((wishbooklaw10_delivery.f 2 5 12 4 6).bind fun bt202 => ((wishbooklaw10_delivery.f 2 20 28 3 9).bind fun bt207 => ((wishbooklaw10_delivery.f 0 30 35 1 1).bind fun bt212 => (some (y171, (([(⟨t174, t175, t176, t177, t178⟩ : S47), (⟨t179, t180, t181, t182, t183⟩ : S47), (⟨t184, t185, t186, t187, t188⟩ : S47), (⟨t189, t190, t191, t192, t193⟩ : S47), (⟨bt194.1, bt194.2.1, bt194.2.2.1, bt194.2.2.2.1, bt194.2.2.2.2⟩ : S47)] : List (S47))), (([(⟨bt202.1, (⟨bt202.2.1, bt202.2.2.1⟩ : S55), (⟨bt202.2.2.2.1, bt202.2.2.2.2⟩ : S55)⟩ : S57), (⟨bt207.1, (⟨bt207.2.1, bt207.2.2.1⟩ : S55), (⟨bt207.2.2.2.1, bt207.2.2.2.2⟩ : S55)⟩ : S57), (⟨bt212.1, (⟨bt212.2.1, bt212.2.2.1⟩ : S55), (⟨bt212.2.2.2.1, bt212.2.2.2.2⟩ : S55)⟩ : S57)] : List (S57))))))))) = some (r1, r2, r3) := H
  have A4 := Aside0.mk A40
  clear A40
  replace H := Option.bind_eq_some_iff.mp H
  obtain ⟨⟨t194, t195, t196, t197, t198⟩, A50, H⟩ := H
  replace H : ((wishbooklaw10_delivery.f 2 5 12 4 6).bind fun bt202 => ((wishbooklaw10_delivery.f 2 20 28 3 9).bind fun bt207 => ((wishbooklaw10_delivery.f 0 30 35 1 1).bind fun bt212 => (some (y171, (([(⟨t174, t175, t176, t177, t178⟩ : S47), (⟨t179, t180, t181, t182, t183⟩ : S47), (⟨t184, t185, t186, t187, t188⟩ : S47), (⟨t189, t190, t191, t192, t193⟩ : S47), (⟨t194, t195, t196, t197, t198⟩ : S47)] : List (S47))), (([(⟨bt202.1, (⟨bt202.2.1, bt202.2.2.1⟩ : S55), (⟨bt202.2.2.2.1, bt202.2.2.2.2⟩ : S55)⟩ : S57), (⟨bt207.1, (⟨bt207.2.1, bt207.2.2.1⟩ : S55), (⟨bt207.2.2.2.1, bt207.2.2.2.2⟩ : S55)⟩ : S57), (⟨bt212.1, (⟨bt212.2.1, bt212.2.2.1⟩ : S55), (⟨bt212.2.2.2.1, bt212.2.2.2.2⟩ : S55)⟩ : S57)] : List (S57)))))))) = some (r1, r2, r3) := H
  have A5 := Aside0.mk A50
  clear A50
  obtain ⟨y199, hy199⟩ : ∃ y_ : List (S47), y_ = (([(⟨t174, t175, t176, t177, t178⟩ : S47), (⟨t179, t180, t181, t182, t183⟩ : S47), (⟨t184, t185, t186, t187, t188⟩ : S47), (⟨t189, t190, t191, t192, t193⟩ : S47), (⟨t194, t195, t196, t197, t198⟩ : S47)] : List (S47))) := ⟨_, rfl⟩
  replace H : ((wishbooklaw10_delivery.f 2 5 12 4 6).bind fun bt202 => ((wishbooklaw10_delivery.f 2 20 28 3 9).bind fun bt207 => ((wishbooklaw10_delivery.f 0 30 35 1 1).bind fun bt212 => (some (y171, y199, (([(⟨bt202.1, (⟨bt202.2.1, bt202.2.2.1⟩ : S55), (⟨bt202.2.2.2.1, bt202.2.2.2.2⟩ : S55)⟩ : S57), (⟨bt207.1, (⟨bt207.2.1, bt207.2.2.1⟩ : S55), (⟨bt207.2.2.2.1, bt207.2.2.2.2⟩ : S55)⟩ : S57), (⟨bt212.1, (⟨bt212.2.1, bt212.2.2.1⟩ : S55), (⟨bt212.2.2.2.1, bt212.2.2.2.2⟩ : S55)⟩ : S57)] : List (S57)))))))) = some (r1, r2, r3) := by first | (rw [hy199]; with_reducible exact H) | (have H2_ := (Option.bind_some _ _).symm.trans H; rw [hy199]; with_reducible exact H2_) | (have H2_ := (Option.bind_some _ _).symm.trans H; with_reducible exact H2_) | with_reducible exact H | (rw [hy199]; exact H) | exact H
  have Ny199 := Aside0.mk hy199
  clear hy199
  replace H := Option.bind_eq_some_iff.mp H
  obtain ⟨⟨t202, t203, t204, t205, t206⟩, A60, H⟩ := H
  replace H : ((wishbooklaw10_delivery.f 2 20 28 3 9).bind fun bt207 => ((wishbooklaw10_delivery.f 0 30 35 1 1).bind fun bt212 => (some (y171, y199, (([(⟨t202, (⟨t203, t204⟩ : S55), (⟨t205, t206⟩ : S55)⟩ : S57), (⟨bt207.1, (⟨bt207.2.1, bt207.2.2.1⟩ : S55), (⟨bt207.2.2.2.1, bt207.2.2.2.2⟩ : S55)⟩ : S57), (⟨bt212.1, (⟨bt212.2.1, bt212.2.2.1⟩ : S55), (⟨bt212.2.2.2.1, bt212.2.2.2.2⟩ : S55)⟩ : S57)] : List (S57))))))) = some (r1, r2, r3) := H
  have A6 := Aside0.mk A60
  clear A60
  replace H := Option.bind_eq_some_iff.mp H
  obtain ⟨⟨t207, t208, t209, t210, t211⟩, A70, H⟩ := H
  replace H : ((wishbooklaw10_delivery.f 0 30 35 1 1).bind fun bt212 => (some (y171, y199, (([(⟨t202, (⟨t203, t204⟩ : S55), (⟨t205, t206⟩ : S55)⟩ : S57), (⟨t207, (⟨t208, t209⟩ : S55), (⟨t210, t211⟩ : S55)⟩ : S57), (⟨bt212.1, (⟨bt212.2.1, bt212.2.2.1⟩ : S55), (⟨bt212.2.2.2.1, bt212.2.2.2.2⟩ : S55)⟩ : S57)] : List (S57)))))) = some (r1, r2, r3) := H
  have A7 := Aside0.mk A70
  clear A70
  replace H := Option.bind_eq_some_iff.mp H
  obtain ⟨⟨t212, t213, t214, t215, t216⟩, A80, H⟩ := H
  replace H : (some (y171, y199, (([(⟨t202, (⟨t203, t204⟩ : S55), (⟨t205, t206⟩ : S55)⟩ : S57), (⟨t207, (⟨t208, t209⟩ : S55), (⟨t210, t211⟩ : S55)⟩ : S57), (⟨t212, (⟨t213, t214⟩ : S55), (⟨t215, t216⟩ : S55)⟩ : S57)] : List (S57))))) = some (r1, r2, r3) := H
  have A8 := Aside0.mk A80
  clear A80
  obtain ⟨y217, hy217⟩ : ∃ y_ : List (S57), y_ = (([(⟨t202, (⟨t203, t204⟩ : S55), (⟨t205, t206⟩ : S55)⟩ : S57), (⟨t207, (⟨t208, t209⟩ : S55), (⟨t210, t211⟩ : S55)⟩ : S57), (⟨t212, (⟨t213, t214⟩ : S55), (⟨t215, t216⟩ : S55)⟩ : S57)] : List (S57))) := ⟨_, rfl⟩
  replace H : (some (y171, y199, y217)) = some (r1, r2, r3) := by first | (rw [hy217]; with_reducible exact H) | (have H2_ := (Option.bind_some _ _).symm.trans H; rw [hy217]; with_reducible exact H2_) | (have H2_ := (Option.bind_some _ _).symm.trans H; with_reducible exact H2_) | with_reducible exact H | (rw [hy217]; exact H) | exact H
  have Ny217 := Aside0.mk hy217
  clear hy217
  simp only [Option.some.injEq, Prod.mk.injEq] at H
  obtain ⟨rfl, rfl, rfl⟩ := H
  go_enter Tryd.func43, Tryd.ntmps43
  go_wp2_with (first | ((with_reducible refine gate_dst (N := 0) rfl ?_); refine box_event ?hg (N := 0) ?hd (cs := #[.slice none 0 0, .slice none 0 0, .slice none 0 0]) (t := 26) ?hr ?_; (case hd => rfl); (case hg => rfl); (case hr => first | (go_simp; done) | (go_simp; rfl)); intro gb170 hg w9 hbox hb; have n0_ := Aside0.mk (below_step (by repeat (first | (with_reducible first | exact HB.out | apply below_alloc | apply pw_below_drewN | apply below_drew1) | exact HB.out)) hb); have n1_ := Aside0.mk (hbox); have n2_ := Aside0.mk ((by rw [hg]; exact (below_size (by repeat (first | (with_reducible first | exact HB.out | apply below_alloc | apply pw_below_drewN | apply below_drew1) | exact HB.out))) : w.heap.size ≤ gb170)); have n3_ := Aside0.mk ((by rw [hg]; exact (below_size (by repeat (first | (with_reducible first | exact HB.out | apply below_alloc | apply pw_below_drewN | apply below_drew1) | exact HB.out))) : w.heap.size ≤ gb170)); clear HB; have HB := n0_; have BK170 := n1_; have GW170 := n2_; have GE170 := n3_; clear n0_ n1_ n2_ n3_; clear hb hbox hg) | ((with_reducible refine gate_dst (N := 1) rfl ?_); refine Kd.R_lit (Kd.int .i64) _ 3 ?hg (N := 1) ?hd (xs := ([5, 2, 0] : List Int)) (inner := [.int .i64 5, .int .i64 2, .int .i64 0]) (ok := fun _ => True) (okp := fun _ => True) ?hr ?hp (fun _ hk => hk) trivial (Below.refl _ _) (Nat.le_refl _) (by simp) ?_; (case hd => rfl); (case hg => rfl); (case hr => first | (go_simp; done) | (go_simp; rfl)); (case hp => exact (Reps.one (show Kd.M (Kd.int .i64) _ _ _ 5 [.int .i64 5] from rfl) (Reps.one (show Kd.M (Kd.int .i64) _ _ _ 2 [.int .i64 2] from rfl) (Reps.one (show Kd.M (Kd.int .i64) _ _ _ 0 [.int .i64 0] from rfl) (Reps.none _ _))))); intro v172 w10 ho11 hb hg_ hnew_; clear hg_ hnew_; (first | rw [← Ny171.out] at ho11 | (simp only [Int.reduceToNat] at ho11; rw [← Ny171.out] at ho11)); have n0_ := Aside0.mk (Kd.R_lower ho11 (below_size (by repeat (first | (with_reducible first | exact HB.out | apply below_alloc | apply pw_below_drewN | apply below_drew1 | refine below_set ?_ GE170.out) | exact HB.out)))); have n1_ := Aside0.mk (blk_below (g := gb170) (o := .cells #[.slice none 0 0, .slice none 0 0, .slice none 0 0] 26 (0, 0)) (by (with_reducible repeat (first | refine blk_drewN ?_ _ | refine blk_drew ?_ | refine blk_alloc ?_ _)); exact BK170.out) hb); have n2_ := Aside0.mk (below_step (by repeat (first | (with_reducible first | exact HB.out | apply below_alloc | apply pw_below_drewN | apply below_drew1 | refine below_set ?_ GE170.out) | exact HB.out)) hb); clear BK170; clear HB; have HO173 := n0_; have BK170 := n1_; have HB := n2_; clear n0_ n1_ n2_; clear hb ho11) | ((with_reducible refine gate_callee (f := 68) rfl ?_); refine goesL_ (some 2) rfl rfl Tryd.func68 (by kernel_rfl) rfl #[.int .i64 0, .int .i64 0, .int .i64 3, .int .i64 10, .int .i64 (-1)] rfl (by (try simp only [List.map_toArray, List.map_cons, List.map_nil]); first | done | rfl | (simp only [List.length_drop, List.length_take]; rfl)) ?_; (with_reducible refine (wishbooklaw10_line.calls 0 0 3 10 (-1) t174 t175 t176 t177 t178 _ A1.out).mono ?_); rintro e w12 ⟨rfl, hb⟩; refine ⟨_, rfl, ?_⟩; have n0_ := Aside0.mk (Kd.R_below (by (with_reducible repeat (first | apply Kd.R_alloc | apply Kd.R_drewN | apply Kd.R_drew)); exact HO173.out) hb); have n1_ := Aside0.mk (blk_below (g := gb170) (o := .cells #[.slice none 0 0, .slice none 0 0, .slice none 0 0] 26 (0, 0)) (by (with_reducible repeat (first | refine blk_drewN ?_ _ | refine blk_drew ?_ | refine blk_alloc ?_ _)); exact BK170.out) hb); have n2_ := Aside0.mk (below_step (by repeat (first | (with_reducible first | exact HB.out | apply below_alloc | apply pw_below_drewN | apply below_drew1 | refine below_set ?_ GE170.out) | exact HB.out)) hb); clear HO173; clear BK170; clear HB; have HO173 := n0_; have BK170 := n1_; have HB := n2_; clear n0_ n1_ n2_; (try clear hb); (try clear hb2); (try clear hk); (try clear hi)) | ((with_reducible refine gate_callee (f := 68) rfl ?_); refine goesL_ (some 3) rfl rfl Tryd.func68 (by kernel_rfl) rfl #[.int .i64 0, .int .i64 1, .int .i64 4, .int .i64 20, .int .i64 0] rfl (by (try simp only [List.map_toArray, List.map_cons, List.map_nil]); first | done | rfl | (simp only [List.length_drop, List.length_take]; rfl)) ?_; (with_reducible refine (wishbooklaw10_line.calls 0 1 4 20 0 t179 t180 t181 t182 t183 _ A2.out).mono ?_); rintro e w13 ⟨rfl, hb⟩; refine ⟨_, rfl, ?_⟩; have n0_ := Aside0.mk (Kd.R_below (by (with_reducible repeat (first | apply Kd.R_alloc | apply Kd.R_drewN | apply Kd.R_drew)); exact HO173.out) hb); have n1_ := Aside0.mk (blk_below (g := gb170) (o := .cells #[.slice none 0 0, .slice none 0 0, .slice none 0 0] 26 (0, 0)) (by (with_reducible repeat (first | refine blk_drewN ?_ _ | refine blk_drew ?_ | refine blk_alloc ?_ _)); exact BK170.out) hb); have n2_ := Aside0.mk (below_step (by repeat (first | (with_reducible first | exact HB.out | apply below_alloc | apply pw_below_drewN | apply below_drew1 | refine below_set ?_ GE170.out) | exact HB.out)) hb); clear HO173; clear BK170; clear HB; have HO173 := n0_; have BK170 := n1_; have HB := n2_; clear n0_ n1_ n2_; (try clear hb); (try clear hb2); (try clear hk); (try clear hi)) | ((with_reducible refine gate_callee (f := 68) rfl ?_); refine goesL_ (some 4) rfl rfl Tryd.func68 (by kernel_rfl) rfl #[.int .i64 1, .int .i64 2, .int .i64 6, .int .i64 30, .int .i64 (-1)] rfl (by (try simp only [List.map_toArray, List.map_cons, List.map_nil]); first | done | rfl | (simp only [List.length_drop, List.length_take]; rfl)) ?_; (with_reducible refine (wishbooklaw10_line.calls 1 2 6 30 (-1) t184 t185 t186 t187 t188 _ A3.out).mono ?_); rintro e w14 ⟨rfl, hb⟩; refine ⟨_, rfl, ?_⟩; have n0_ := Aside0.mk (Kd.R_below (by (with_reducible repeat (first | apply Kd.R_alloc | apply Kd.R_drewN | apply Kd.R_drew)); exact HO173.out) hb); have n1_ := Aside0.mk (blk_below (g := gb170) (o := .cells #[.slice none 0 0, .slice none 0 0, .slice none 0 0] 26 (0, 0)) (by (with_reducible repeat (first | refine blk_drewN ?_ _ | refine blk_drew ?_ | refine blk_alloc ?_ _)); exact BK170.out) hb); have n2_ := Aside0.mk (below_step (by repeat (first | (with_reducible first | exact HB.out | apply below_alloc | apply pw_below_drewN | apply below_drew1 | refine below_set ?_ GE170.out) | exact HB.out)) hb); clear HO173; clear BK170; clear HB; have HO173 := n0_; have BK170 := n1_; have HB := n2_; clear n0_ n1_ n2_; (try clear hb); (try clear hb2); (try clear hk); (try clear hi)) | ((with_reducible refine gate_callee (f := 68) rfl ?_); refine goesL_ (some 5) rfl rfl Tryd.func68 (by kernel_rfl) rfl #[.int .i64 2, .int .i64 2, .int .i64 5, .int .i64 15, .int .i64 (-1)] rfl (by (try simp only [List.map_toArray, List.map_cons, List.map_nil]); first | done | rfl | (simp only [List.length_drop, List.length_take]; rfl)) ?_; (with_reducible refine (wishbooklaw10_line.calls 2 2 5 15 (-1) t189 t190 t191 t192 t193 _ A4.out).mono ?_); rintro e w15 ⟨rfl, hb⟩; refine ⟨_, rfl, ?_⟩; have n0_ := Aside0.mk (Kd.R_below (by (with_reducible repeat (first | apply Kd.R_alloc | apply Kd.R_drewN | apply Kd.R_drew)); exact HO173.out) hb); have n1_ := Aside0.mk (blk_below (g := gb170) (o := .cells #[.slice none 0 0, .slice none 0 0, .slice none 0 0] 26 (0, 0)) (by (with_reducible repeat (first | refine blk_drewN ?_ _ | refine blk_drew ?_ | refine blk_alloc ?_ _)); exact BK170.out) hb); have n2_ := Aside0.mk (below_step (by repeat (first | (with_reducible first | exact HB.out | apply below_alloc | apply pw_below_drewN | apply below_drew1 | refine below_set ?_ GE170.out) | exact HB.out)) hb); clear HO173; clear BK170; clear HB; have HO173 := n0_; have BK170 := n1_; have HB := n2_; clear n0_ n1_ n2_; (try clear hb); (try clear hb2); (try clear hk); (try clear hi)) | ((with_reducible refine gate_callee (f := 68) rfl ?_); refine goesL_ (some 6) rfl rfl Tryd.func68 (by kernel_rfl) rfl #[.int .i64 2, .int .i64 0, .int .i64 2, .int .i64 40, .int .i64 (-1)] rfl (by (try simp only [List.map_toArray, List.map_cons, List.map_nil]); first | done | rfl | (simp only [List.length_drop, List.length_take]; rfl)) ?_; (with_reducible refine (wishbooklaw10_line.calls 2 0 2 40 (-1) t194 t195 t196 t197 t198 _ A5.out).mono ?_); rintro e w16 ⟨rfl, hb⟩; refine ⟨_, rfl, ?_⟩; have n0_ := Aside0.mk (Kd.R_below (by (with_reducible repeat (first | apply Kd.R_alloc | apply Kd.R_drewN | apply Kd.R_drew)); exact HO173.out) hb); have n1_ := Aside0.mk (blk_below (g := gb170) (o := .cells #[.slice none 0 0, .slice none 0 0, .slice none 0 0] 26 (0, 0)) (by (with_reducible repeat (first | refine blk_drewN ?_ _ | refine blk_drew ?_ | refine blk_alloc ?_ _)); exact BK170.out) hb); have n2_ := Aside0.mk (below_step (by repeat (first | (with_reducible first | exact HB.out | apply below_alloc | apply pw_below_drewN | apply below_drew1 | refine below_set ?_ GE170.out) | exact HB.out)) hb); clear HO173; clear BK170; clear HB; have HO173 := n0_; have BK170 := n1_; have HB := n2_; clear n0_ n1_ n2_; (try clear hb); (try clear hb2); (try clear hk); (try clear hi)) | ((with_reducible refine gate_dst (N := 7) rfl ?_); refine Kd.R_lit k47 _ 47 ?hg (N := 7) ?hd (xs := ([(⟨t174, t175, t176, t177, t178⟩ : S47), (⟨t179, t180, t181, t182, t183⟩ : S47), (⟨t184, t185, t186, t187, t188⟩ : S47), (⟨t189, t190, t191, t192, t193⟩ : S47), (⟨t194, t195, t196, t197, t198⟩ : S47)] : List (S47))) (inner := [.int .i64 t174, .int .i64 t175, .int .i64 t176, .int .i64 t177, .int .i64 t178, .int .i64 t179, .int .i64 t180, .int .i64 t181, .int .i64 t182, .int .i64 t183, .int .i64 t184, .int .i64 t185, .int .i64 t186, .int .i64 t187, .int .i64 t188, .int .i64 t189, .int .i64 t190, .int .i64 t191, .int .i64 t192, .int .i64 t193, .int .i64 t194, .int .i64 t195, .int .i64 t196, .int .i64 t197, .int .i64 t198]) (ok := fun _ => True) (okp := fun _ => True) ?hr ?hp (fun _ hk => hk) trivial (Below.refl _ _) (Nat.le_refl _) (by simp) ?_; (case hd => rfl); (case hg => rfl); (case hr => first | (go_simp; done) | (go_simp; rfl)); (case hp => exact (Reps.c5 (show Kd.M k47 _ _ _ (⟨t174, t175, t176, t177, t178⟩ : S47) [.int .i64 t174, .int .i64 t175, .int .i64 t176, .int .i64 t177, .int .i64 t178] from (k47_mkM _ _ _ (⟨t174, t175, t176, t177, t178⟩ : S47) )) (Reps.c5 (show Kd.M k47 _ _ _ (⟨t179, t180, t181, t182, t183⟩ : S47) [.int .i64 t179, .int .i64 t180, .int .i64 t181, .int .i64 t182, .int .i64 t183] from (k47_mkM _ _ _ (⟨t179, t180, t181, t182, t183⟩ : S47) )) (Reps.c5 (show Kd.M k47 _ _ _ (⟨t184, t185, t186, t187, t188⟩ : S47) [.int .i64 t184, .int .i64 t185, .int .i64 t186, .int .i64 t187, .int .i64 t188] from (k47_mkM _ _ _ (⟨t184, t185, t186, t187, t188⟩ : S47) )) (Reps.c5 (show Kd.M k47 _ _ _ (⟨t189, t190, t191, t192, t193⟩ : S47) [.int .i64 t189, .int .i64 t190, .int .i64 t191, .int .i64 t192, .int .i64 t193] from (k47_mkM _ _ _ (⟨t189, t190, t191, t192, t193⟩ : S47) )) (Reps.c5 (show Kd.M k47 _ _ _ (⟨t194, t195, t196, t197, t198⟩ : S47) [.int .i64 t194, .int .i64 t195, .int .i64 t196, .int .i64 t197, .int .i64 t198] from (k47_mkM _ _ _ (⟨t194, t195, t196, t197, t198⟩ : S47) )) (Reps.none _ _))))))); intro v200 w17 ho18 hb hg_ hnew_; clear hg_ hnew_; (first | rw [← Ny199.out] at ho18 | (simp only [Int.reduceToNat] at ho18; rw [← Ny199.out] at ho18)); have n0_ := Aside0.mk (Kd.R_below (by (with_reducible repeat (first | apply Kd.R_alloc | apply Kd.R_drewN | apply Kd.R_drew)); exact HO173.out) hb); have n1_ := Aside0.mk (Kd.R_lower ho18 (below_size (by repeat (first | (with_reducible first | exact HB.out | apply below_alloc | apply pw_below_drewN | apply below_drew1 | refine below_set ?_ GE170.out) | exact HB.out)))); have n2_ := Aside0.mk (blk_below (g := gb170) (o := .cells #[.slice none 0 0, .slice none 0 0, .slice none 0 0] 26 (0, 0)) (by (with_reducible repeat (first | refine blk_drewN ?_ _ | refine blk_drew ?_ | refine blk_alloc ?_ _)); exact BK170.out) hb); have n3_ := Aside0.mk (below_step (by repeat (first | (with_reducible first | exact HB.out | apply below_alloc | apply pw_below_drewN | apply below_drew1 | refine below_set ?_ GE170.out) | exact HB.out)) hb); clear HO173; clear BK170; clear HB; have HO173 := n0_; have HO201 := n1_; have BK170 := n2_; have HB := n3_; clear n0_ n1_ n2_ n3_; clear hb ho18) | ((with_reducible refine gate_callee (f := 39) rfl ?_); refine goesL_ (some 8) rfl rfl Tryd.func39 (by kernel_rfl) rfl #[.int .i64 2, .int .i64 5, .int .i64 12, .int .i64 4, .int .i64 6] rfl (by (try simp only [List.map_toArray, List.map_cons, List.map_nil]); first | done | rfl | (simp only [List.length_drop, List.length_take]; rfl)) ?_; (with_reducible refine (wishbooklaw10_delivery.calls 2 5 12 4 6 t202 t203 t204 t205 t206 _ A6.out).mono ?_); rintro e w19 ⟨rfl, hb⟩; refine ⟨_, rfl, ?_⟩; have n0_ := Aside0.mk (Kd.R_below (by (with_reducible repeat (first | apply Kd.R_alloc | apply Kd.R_drewN | apply Kd.R_drew)); exact HO173.out) hb); have n1_ := Aside0.mk (Kd.R_below (by (with_reducible repeat (first | apply Kd.R_alloc | apply Kd.R_drewN | apply Kd.R_drew)); exact HO201.out) hb); have n2_ := Aside0.mk (blk_below (g := gb170) (o := .cells #[.slice none 0 0, .slice none 0 0, .slice none 0 0] 26 (0, 0)) (by (with_reducible repeat (first | refine blk_drewN ?_ _ | refine blk_drew ?_ | refine blk_alloc ?_ _)); exact BK170.out) hb); have n3_ := Aside0.mk (below_step (by repeat (first | (with_reducible first | exact HB.out | apply below_alloc | apply pw_below_drewN | apply below_drew1 | refine below_set ?_ GE170.out) | exact HB.out)) hb); clear HO173; clear HO201; clear BK170; clear HB; have HO173 := n0_; have HO201 := n1_; have BK170 := n2_; have HB := n3_; clear n0_ n1_ n2_ n3_; (try clear hb); (try clear hb2); (try clear hk); (try clear hi)) | ((with_reducible refine gate_callee (f := 39) rfl ?_); refine goesL_ (some 9) rfl rfl Tryd.func39 (by kernel_rfl) rfl #[.int .i64 2, .int .i64 20, .int .i64 28, .int .i64 3, .int .i64 9] rfl (by (try simp only [List.map_toArray, List.map_cons, List.map_nil]); first | done | rfl | (simp only [List.length_drop, List.length_take]; rfl)) ?_; (with_reducible refine (wishbooklaw10_delivery.calls 2 20 28 3 9 t207 t208 t209 t210 t211 _ A7.out).mono ?_); rintro e w20 ⟨rfl, hb⟩; refine ⟨_, rfl, ?_⟩; have n0_ := Aside0.mk (Kd.R_below (by (with_reducible repeat (first | apply Kd.R_alloc | apply Kd.R_drewN | apply Kd.R_drew)); exact HO173.out) hb); have n1_ := Aside0.mk (Kd.R_below (by (with_reducible repeat (first | apply Kd.R_alloc | apply Kd.R_drewN | apply Kd.R_drew)); exact HO201.out) hb); have n2_ := Aside0.mk (blk_below (g := gb170) (o := .cells #[.slice none 0 0, .slice none 0 0, .slice none 0 0] 26 (0, 0)) (by (with_reducible repeat (first | refine blk_drewN ?_ _ | refine blk_drew ?_ | refine blk_alloc ?_ _)); exact BK170.out) hb); have n3_ := Aside0.mk (below_step (by repeat (first | (with_reducible first | exact HB.out | apply below_alloc | apply pw_below_drewN | apply below_drew1 | refine below_set ?_ GE170.out) | exact HB.out)) hb); clear HO173; clear HO201; clear BK170; clear HB; have HO173 := n0_; have HO201 := n1_; have BK170 := n2_; have HB := n3_; clear n0_ n1_ n2_ n3_; (try clear hb); (try clear hb2); (try clear hk); (try clear hi)) | ((with_reducible refine gate_callee (f := 39) rfl ?_); refine goesL_ (some 10) rfl rfl Tryd.func39 (by kernel_rfl) rfl #[.int .i64 0, .int .i64 30, .int .i64 35, .int .i64 1, .int .i64 1] rfl (by (try simp only [List.map_toArray, List.map_cons, List.map_nil]); first | done | rfl | (simp only [List.length_drop, List.length_take]; rfl)) ?_; (with_reducible refine (wishbooklaw10_delivery.calls 0 30 35 1 1 t212 t213 t214 t215 t216 _ A8.out).mono ?_); rintro e w21 ⟨rfl, hb⟩; refine ⟨_, rfl, ?_⟩; have n0_ := Aside0.mk (Kd.R_below (by (with_reducible repeat (first | apply Kd.R_alloc | apply Kd.R_drewN | apply Kd.R_drew)); exact HO173.out) hb); have n1_ := Aside0.mk (Kd.R_below (by (with_reducible repeat (first | apply Kd.R_alloc | apply Kd.R_drewN | apply Kd.R_drew)); exact HO201.out) hb); have n2_ := Aside0.mk (blk_below (g := gb170) (o := .cells #[.slice none 0 0, .slice none 0 0, .slice none 0 0] 26 (0, 0)) (by (with_reducible repeat (first | refine blk_drewN ?_ _ | refine blk_drew ?_ | refine blk_alloc ?_ _)); exact BK170.out) hb); have n3_ := Aside0.mk (below_step (by repeat (first | (with_reducible first | exact HB.out | apply below_alloc | apply pw_below_drewN | apply below_drew1 | refine below_set ?_ GE170.out) | exact HB.out)) hb); clear HO173; clear HO201; clear BK170; clear HB; have HO173 := n0_; have HO201 := n1_; have BK170 := n2_; have HB := n3_; clear n0_ n1_ n2_ n3_; (try clear hb); (try clear hb2); (try clear hk); (try clear hi)) | ((with_reducible refine gate_dst (N := 11) rfl ?_); refine Kd.R_lit k57 _ 57 ?hg (N := 11) ?hd (xs := ([(⟨t202, (⟨t203, t204⟩ : S55), (⟨t205, t206⟩ : S55)⟩ : S57), (⟨t207, (⟨t208, t209⟩ : S55), (⟨t210, t211⟩ : S55)⟩ : S57), (⟨t212, (⟨t213, t214⟩ : S55), (⟨t215, t216⟩ : S55)⟩ : S57)] : List (S57))) (inner := [.int .i64 t202, .int .i64 t203, .int .i64 t204, .int .i64 t205, .int .i64 t206, .int .i64 t207, .int .i64 t208, .int .i64 t209, .int .i64 t210, .int .i64 t211, .int .i64 t212, .int .i64 t213, .int .i64 t214, .int .i64 t215, .int .i64 t216]) (ok := fun _ => True) (okp := fun _ => True) ?hr ?hp (fun _ hk => hk) trivial (Below.refl _ _) (Nat.le_refl _) (by simp) ?_; (case hd => rfl); (case hg => rfl); (case hr => first | (go_simp; done) | (go_simp; rfl)); (case hp => exact (Reps.c5 (show Kd.M k57 _ _ _ (⟨t202, (⟨t203, t204⟩ : S55), (⟨t205, t206⟩ : S55)⟩ : S57) [.int .i64 t202, .int .i64 t203, .int .i64 t204, .int .i64 t205, .int .i64 t206] from (k57_mkM _ _ _ (⟨t202, (⟨t203, t204⟩ : S55), (⟨t205, t206⟩ : S55)⟩ : S57) )) (Reps.c5 (show Kd.M k57 _ _ _ (⟨t207, (⟨t208, t209⟩ : S55), (⟨t210, t211⟩ : S55)⟩ : S57) [.int .i64 t207, .int .i64 t208, .int .i64 t209, .int .i64 t210, .int .i64 t211] from (k57_mkM _ _ _ (⟨t207, (⟨t208, t209⟩ : S55), (⟨t210, t211⟩ : S55)⟩ : S57) )) (Reps.c5 (show Kd.M k57 _ _ _ (⟨t212, (⟨t213, t214⟩ : S55), (⟨t215, t216⟩ : S55)⟩ : S57) [.int .i64 t212, .int .i64 t213, .int .i64 t214, .int .i64 t215, .int .i64 t216] from (k57_mkM _ _ _ (⟨t212, (⟨t213, t214⟩ : S55), (⟨t215, t216⟩ : S55)⟩ : S57) )) (Reps.none _ _))))); intro v218 w22 ho23 hb hg_ hnew_; clear hg_ hnew_; (first | rw [← Ny217.out] at ho23 | (simp only [Int.reduceToNat] at ho23; rw [← Ny217.out] at ho23)); have n0_ := Aside0.mk (Kd.R_below (by (with_reducible repeat (first | apply Kd.R_alloc | apply Kd.R_drewN | apply Kd.R_drew)); exact HO173.out) hb); have n1_ := Aside0.mk (Kd.R_below (by (with_reducible repeat (first | apply Kd.R_alloc | apply Kd.R_drewN | apply Kd.R_drew)); exact HO201.out) hb); have n2_ := Aside0.mk (Kd.R_lower ho23 (below_size (by repeat (first | (with_reducible first | exact HB.out | apply below_alloc | apply pw_below_drewN | apply below_drew1 | refine below_set ?_ GE170.out) | exact HB.out)))); have n3_ := Aside0.mk (blk_below (g := gb170) (o := .cells #[.slice none 0 0, .slice none 0 0, .slice none 0 0] 26 (0, 0)) (by (with_reducible repeat (first | refine blk_drewN ?_ _ | refine blk_drew ?_ | refine blk_alloc ?_ _)); exact BK170.out) hb); have n4_ := Aside0.mk (below_step (by repeat (first | (with_reducible first | exact HB.out | apply below_alloc | apply pw_below_drewN | apply below_drew1 | refine below_set ?_ GE170.out) | exact HB.out)) hb); clear HO173; clear HO201; clear BK170; clear HB; have HO173 := n0_; have HO201 := n1_; have HO219 := n2_; have BK170 := n3_; have HB := n4_; clear n0_ n1_ n2_ n3_ n4_; clear hb ho23; obtain ⟨Ao24, co24, eo24⟩ := Kd.R_slice HO219.out; subst eo24; obtain ⟨Ao25, co25, eo25⟩ := Kd.R_slice HO201.out; subst eo25; obtain ⟨Ao26, co26, eo26⟩ := Kd.R_slice HO173.out; subst eo26; have hcz27_0 : w22.cell? ⟨gb170, 0, none⟩ = some (.slice none 0 0) := (blk_cell BK170.out 0).trans rfl; have hcz27_1 : w22.cell? ⟨gb170, 1, none⟩ = some (.slice none 0 0) := (blk_cell BK170.out 1).trans rfl; have hcz27_2 : w22.cell? ⟨gb170, 2, none⟩ = some (.slice none 0 0) := (blk_cell BK170.out 2).trans rfl; have hfz27_0 := blk_frozen BK170.out 0; have hfz27_1 := blk_frozen BK170.out 1; have hfz27_2 := blk_frozen BK170.out 2))
  refine bodyPost_ret (results_cell_row rfl _ _ gb170 26 #[.slice Ao26 y171.length co26, .slice Ao25 y199.length co25, .slice Ao24 y217.length co24] (0, 0) _ rfl (by (with_reducible repeat (first | refine blk_drewN ?_ _ | refine blk_drew ?_ | refine blk_alloc ?_ _)); refine blk_put (cs := #[.slice Ao26 y171.length co26, .slice Ao25 y199.length co25, .slice none 0 0]) ?_ 2 _ rfl; (with_reducible repeat (first | refine blk_drewN ?_ _ | refine blk_drew ?_ | refine blk_alloc ?_ _)); refine blk_put (cs := #[.slice Ao26 y171.length co26, .slice none 0 0, .slice none 0 0]) ?_ 1 _ rfl; (with_reducible repeat (first | refine blk_drewN ?_ _ | refine blk_drew ?_ | refine blk_alloc ?_ _)); refine blk_put (cs := #[.slice none 0 0, .slice none 0 0, .slice none 0 0]) ?_ 0 _ rfl; (with_reducible repeat (first | refine blk_drewN ?_ _ | refine blk_drew ?_ | refine blk_alloc ?_ _)); exact BK170.out) Tryd.underlying26 rfl (by kernel_rfl)) rfl ?_
  exact ⟨_, _, _, by first | rfl | (simp [errW_none, errW_some] <;> rfl) | (simp [*, errW_none, errW_some] <;> rfl), by (with_reducible repeat (first | apply Kd.R_alloc | apply Kd.R_drewN | apply Kd.R_drew)); exact Kd.R_mono (Kd.R_far (p := ⟨gb170, 2, none⟩) (Kd.R_far (p := ⟨gb170, 1, none⟩) (Kd.R_far (p := ⟨gb170, 0, none⟩) (Kd.R_types HO173.out BK170.out (by decide)) (fun _ hk => hk.2) (.slice Ao26 y171.length co26)) (fun _ hk => hk.2) (.slice Ao25 y199.length co25)) (fun _ hk => hk.2) (.slice Ao24 y217.length co24)) (fun _ hk => trivial), by (with_reducible repeat (first | apply Kd.R_alloc | apply Kd.R_drewN | apply Kd.R_drew)); exact Kd.R_mono (Kd.R_far (p := ⟨gb170, 2, none⟩) (Kd.R_far (p := ⟨gb170, 1, none⟩) (Kd.R_far (p := ⟨gb170, 0, none⟩) (Kd.R_types HO201.out BK170.out (by decide)) (fun _ hk => hk.2) (.slice Ao26 y171.length co26)) (fun _ hk => hk.2) (.slice Ao25 y199.length co25)) (fun _ hk => hk.2) (.slice Ao24 y217.length co24)) (fun _ hk => trivial), by (with_reducible repeat (first | apply Kd.R_alloc | apply Kd.R_drewN | apply Kd.R_drew)); exact Kd.R_mono (Kd.R_far (p := ⟨gb170, 2, none⟩) (Kd.R_far (p := ⟨gb170, 1, none⟩) (Kd.R_far (p := ⟨gb170, 0, none⟩) (Kd.R_types HO219.out BK170.out (by decide)) (fun _ hk => hk.2) (.slice Ao26 y171.length co26)) (fun _ hk => hk.2) (.slice Ao25 y199.length co25)) (fun _ hk => hk.2) (.slice Ao24 y217.length co24)) (fun _ hk => trivial), by repeat (first | (with_reducible first | exact HB.out | apply below_alloc | apply pw_below_drewN | apply below_drew1 | refine below_set ?_ GE170.out) | exact HB.out)⟩
def wishbooklaw10_then.f  : Option ((List (S59))) := some (([(⟨6, 5⟩ : S59), (⟨20, 5⟩ : S59), (⟨30, 1⟩ : S59)] : List (S59)))
set_option maxHeartbeats 8000000 in
set_option maxRecDepth 100000 in
theorem wishbooklaw10_then.calls  (r : List (S59)) (w : World) (h : wishbooklaw10_then.f  = some r) :
    Calls Tryd.prog 45 #[] w fun e w' => ∃ v0_ : Value, e = .returned (v0_) ∧ Kd.R k59 59 w' w.heap.size (fun _ => True) v0_ r ∧ Below w.heap.size w w' := by
  have hu59 := Tryd.underlying59
  have HB := Aside0.mk (Below.refl w.heap.size w)
  have H : (some (([(⟨6, 5⟩ : S59), (⟨20, 5⟩ : S59), (⟨30, 1⟩ : S59)] : List (S59)))) = some r := h
  clear h
  obtain ⟨y220, hy220⟩ : ∃ y_ : List (S59), y_ = (([(⟨6, 5⟩ : S59), (⟨20, 5⟩ : S59), (⟨30, 1⟩ : S59)] : List (S59))) := ⟨_, rfl⟩
  replace H : (some y220) = some r := by first | (rw [hy220]; with_reducible exact H) | (have H2_ := (Option.bind_some _ _).symm.trans H; rw [hy220]; with_reducible exact H2_) | (have H2_ := (Option.bind_some _ _).symm.trans H; with_reducible exact H2_) | with_reducible exact H | (rw [hy220]; exact H) | exact H
  have Ny220 := Aside0.mk hy220
  clear hy220
  obtain rfl := Option.some.inj H
  go_enter Tryd.func45, Tryd.ntmps45
  go_wp2_with (first | ((with_reducible refine gate_dst (N := 4) rfl ?_); refine Kd.R_lit k59 _ 59 ?hg (N := 4) ?hd (xs := ([(⟨6, 5⟩ : S59), (⟨20, 5⟩ : S59), (⟨30, 1⟩ : S59)] : List (S59))) (inner := [.int .i64 6, .int .i64 5, .int .i64 20, .int .i64 5, .int .i64 30, .int .i64 1]) (ok := fun _ => True) (okp := fun _ => True) ?hr ?hp (fun _ hk => hk) trivial (Below.refl _ _) (Nat.le_refl _) (by simp) ?_; (case hd => rfl); (case hg => rfl); (case hr => first | (go_simp; done) | (go_simp; rfl)); (case hp => exact (Reps.c2 (show Kd.M k59 _ _ _ (⟨6, 5⟩ : S59) [.int .i64 6, .int .i64 5] from (k59_mkM _ _ _ (⟨6, 5⟩ : S59) )) (Reps.c2 (show Kd.M k59 _ _ _ (⟨20, 5⟩ : S59) [.int .i64 20, .int .i64 5] from (k59_mkM _ _ _ (⟨20, 5⟩ : S59) )) (Reps.c2 (show Kd.M k59 _ _ _ (⟨30, 1⟩ : S59) [.int .i64 30, .int .i64 1] from (k59_mkM _ _ _ (⟨30, 1⟩ : S59) )) (Reps.none _ _))))); intro v221 w1 ho2 hb hg_ hnew_; clear hg_ hnew_; (first | rw [← Ny220.out] at ho2 | (simp only [Int.reduceToNat] at ho2; rw [← Ny220.out] at ho2)); have n0_ := Aside0.mk (Kd.R_lower ho2 (below_size (by repeat (first | (with_reducible first | exact HB.out | apply below_alloc | apply pw_below_drewN | apply below_drew1) | exact HB.out)))); have n1_ := Aside0.mk (below_step (by repeat (first | (with_reducible first | exact HB.out | apply below_alloc | apply pw_below_drewN | apply below_drew1) | exact HB.out)) hb); clear HB; have HO222 := n0_; have HB := n1_; clear n0_ n1_; clear hb ho2))
  go_ret
  exact ⟨_, by first | rfl | (simp [errW_none, errW_some] <;> rfl) | (simp [*, errW_none, errW_some] <;> rfl), by (with_reducible repeat (first | apply Kd.R_alloc | apply Kd.R_drewN | apply Kd.R_drew)); exact HO222.out, by repeat (first | (with_reducible first | exact HB.out | apply below_alloc | apply pw_below_drewN | apply below_drew1) | exact HB.out)⟩
def wishbooklaw10_shares.f  : Option ((List (S49))) := some (([(⟨3, 0, 0, 0⟩ : S49), (⟨2, 2, 0, 0⟩ : S49), (⟨0, 0, 6, 0⟩ : S49), (⟨0, 0, 1, 4⟩ : S49), (⟨0, 0, 1, 1⟩ : S49)] : List (S49)))
set_option maxHeartbeats 8000000 in
set_option maxRecDepth 100000 in
theorem wishbooklaw10_shares.calls  (r : List (S49)) (w : World) (h : wishbooklaw10_shares.f  = some r) :
    Calls Tryd.prog 49 #[] w fun e w' => ∃ v0_ : Value, e = .returned (v0_) ∧ Kd.R k49 49 w' w.heap.size (fun _ => True) v0_ r ∧ Below w.heap.size w w' := by
  have hu49 := Tryd.underlying49
  have HB := Aside0.mk (Below.refl w.heap.size w)
  have H : (some (([(⟨3, 0, 0, 0⟩ : S49), (⟨2, 2, 0, 0⟩ : S49), (⟨0, 0, 6, 0⟩ : S49), (⟨0, 0, 1, 4⟩ : S49), (⟨0, 0, 1, 1⟩ : S49)] : List (S49)))) = some r := h
  clear h
  obtain ⟨y223, hy223⟩ : ∃ y_ : List (S49), y_ = (([(⟨3, 0, 0, 0⟩ : S49), (⟨2, 2, 0, 0⟩ : S49), (⟨0, 0, 6, 0⟩ : S49), (⟨0, 0, 1, 4⟩ : S49), (⟨0, 0, 1, 1⟩ : S49)] : List (S49))) := ⟨_, rfl⟩
  replace H : (some y223) = some r := by first | (rw [hy223]; with_reducible exact H) | (have H2_ := (Option.bind_some _ _).symm.trans H; rw [hy223]; with_reducible exact H2_) | (have H2_ := (Option.bind_some _ _).symm.trans H; with_reducible exact H2_) | with_reducible exact H | (rw [hy223]; exact H) | exact H
  have Ny223 := Aside0.mk hy223
  clear hy223
  obtain rfl := Option.some.inj H
  go_enter Tryd.func49, Tryd.ntmps49
  go_wp2_with (first | ((with_reducible refine gate_dst (N := 6) rfl ?_); refine Kd.R_lit k49 _ 49 ?hg (N := 6) ?hd (xs := ([(⟨3, 0, 0, 0⟩ : S49), (⟨2, 2, 0, 0⟩ : S49), (⟨0, 0, 6, 0⟩ : S49), (⟨0, 0, 1, 4⟩ : S49), (⟨0, 0, 1, 1⟩ : S49)] : List (S49))) (inner := [.int .i64 3, .int .i64 0, .int .i64 0, .int .i64 0, .int .i64 2, .int .i64 2, .int .i64 0, .int .i64 0, .int .i64 0, .int .i64 0, .int .i64 6, .int .i64 0, .int .i64 0, .int .i64 0, .int .i64 1, .int .i64 4, .int .i64 0, .int .i64 0, .int .i64 1, .int .i64 1]) (ok := fun _ => True) (okp := fun _ => True) ?hr ?hp (fun _ hk => hk) trivial (Below.refl _ _) (Nat.le_refl _) (by simp) ?_; (case hd => rfl); (case hg => rfl); (case hr => first | (go_simp; done) | (go_simp; rfl)); (case hp => exact (Reps.c4 (show Kd.M k49 _ _ _ (⟨3, 0, 0, 0⟩ : S49) [.int .i64 3, .int .i64 0, .int .i64 0, .int .i64 0] from (k49_mkM _ _ _ (⟨3, 0, 0, 0⟩ : S49) )) (Reps.c4 (show Kd.M k49 _ _ _ (⟨2, 2, 0, 0⟩ : S49) [.int .i64 2, .int .i64 2, .int .i64 0, .int .i64 0] from (k49_mkM _ _ _ (⟨2, 2, 0, 0⟩ : S49) )) (Reps.c4 (show Kd.M k49 _ _ _ (⟨0, 0, 6, 0⟩ : S49) [.int .i64 0, .int .i64 0, .int .i64 6, .int .i64 0] from (k49_mkM _ _ _ (⟨0, 0, 6, 0⟩ : S49) )) (Reps.c4 (show Kd.M k49 _ _ _ (⟨0, 0, 1, 4⟩ : S49) [.int .i64 0, .int .i64 0, .int .i64 1, .int .i64 4] from (k49_mkM _ _ _ (⟨0, 0, 1, 4⟩ : S49) )) (Reps.c4 (show Kd.M k49 _ _ _ (⟨0, 0, 1, 1⟩ : S49) [.int .i64 0, .int .i64 0, .int .i64 1, .int .i64 1] from (k49_mkM _ _ _ (⟨0, 0, 1, 1⟩ : S49) )) (Reps.none _ _))))))); intro v224 w1 ho2 hb hg_ hnew_; clear hg_ hnew_; (first | rw [← Ny223.out] at ho2 | (simp only [Int.reduceToNat] at ho2; rw [← Ny223.out] at ho2)); have n0_ := Aside0.mk (Kd.R_lower ho2 (below_size (by repeat (first | (with_reducible first | exact HB.out | apply below_alloc | apply pw_below_drewN | apply below_drew1) | exact HB.out)))); have n1_ := Aside0.mk (below_step (by repeat (first | (with_reducible first | exact HB.out | apply below_alloc | apply pw_below_drewN | apply below_drew1) | exact HB.out)) hb); clear HB; have HO225 := n0_; have HB := n1_; clear n0_ n1_; clear hb ho2))
  go_ret
  exact ⟨_, by first | rfl | (simp [errW_none, errW_some] <;> rfl) | (simp [*, errW_none, errW_some] <;> rfl), by (with_reducible repeat (first | apply Kd.R_alloc | apply Kd.R_drewN | apply Kd.R_drew)); exact HO225.out, by repeat (first | (with_reducible first | exact HB.out | apply below_alloc | apply pw_below_drewN | apply below_drew1) | exact HB.out)⟩
end Go.Proofs.YtegpepnmnlockaaDoor.PL
namespace Go.Proofs.YtegpepnmnlockaaDoor.PL
open Go.RowKit Go.Proofs.YtegpepnmnlockaaDoorW.PrintWords Go.Proofs.YtegpepnmnlockaaDoorW.PrintLast Go.Proofs.YtegpepnmnlockaaDoorW.PrintMore
set_option linter.unusedVariables false
set_option linter.unusedSimpArgs false
/-- Is a line's turn no later than another's? -/
def turnLe (l1 : List S47) (i line : Nat) : Prop := (rd_T47 l1 i).f3 < (rd_T47 l1 line).f3 ∨ ((rd_T47 l1 i).f3 = (rd_T47 l1 line).f3 ∧ i ≤ line)
instance (l1 : List S47) (i line : Nat) : Decidable (turnLe l1 i line) := by unfold turnLe; infer_instance
/-- What is listed of a good for the first n lines whose turn is no later than a line's. -/
def needG (l1 : List S47) (sh : List S49) (line : Nat) : Nat → Int
  | 0 => 0
  | i + 1 => needG l1 sh line i + if (rd_T47 l1 i).f1 = (rd_T47 l1 line).f1 ∧ turnLe l1 i line then (rd_T49 sh i).f2 else 0
theorem sumTo_perm (f : Nat → Int) {xs ys : List Nat} (h : xs.Perm ys) : sumTo f xs = sumTo f ys := by
  induction h with
  | nil => rfl
  | cons x _ ih => rw [sumTo, sumTo, ih]
  | swap x y l => simp only [sumTo]; omega
  | trans _ _ ih1 ih2 => exact ih1.trans ih2
theorem cfL_not (l1 : List S47) (line i : Nat) : (!decide (cfL l1 line i < 0)) = decide (turnLe l1 i line) := by
  by_cases h : turnLe l1 i line
  · rw [decide_eq_true h, decide_eq_false (fun hh => by
      rw [cfL_lt] at hh
      unfold turnLe at h
      omega)]
    rfl
  · rw [decide_eq_false h, decide_eq_true ((cfL_lt l1 line i).2 (by unfold turnLe at h; omega))]
    rfl
theorem sum_need (l1 : List S47) (sh : List S49) (line : Nat) (hs : ∀ i : Nat, 0 ≤ (rd_T49 sh i).f2) : ∀ n, sumTo (fun i => (rd_T49 sh (i : Nat)).f2) ((candF l1 sh (rd_T47 l1 line).f1 n).filter fun i => decide (turnLe l1 i line)) = needG l1 sh line n
  | 0 => rfl
  | n + 1 => by
    have ih := sum_need l1 sh line hs n
    have h0 := hs n
    rw [candF_succ, List.filter_append, sumTo_append, ih, needG]
    congr 1
    by_cases c1 : (rd_T47 l1 n).f1 = (rd_T47 l1 line).f1
    · by_cases c2 : 0 < (rd_T49 sh n).f2
      · rw [if_pos (by simp [c1, c2])]
        by_cases c3 : turnLe l1 n line
        · rw [if_pos ⟨c1, c3⟩]
          simp [c3, sumTo]
        · rw [if_neg (fun h => c3 h.2)]
          simp [c3, sumTo]
      · rw [if_neg (by simp [c1]; omega)]
        have e : (rd_T49 sh n).f2 = 0 := by omega
        rw [e]
        simp [sumTo]
    · rw [if_neg (by simp [c1]), if_neg (fun h => c1 h.1)]
      rfl
theorem need_plain (l1 : List S47) (sh : List S49) (line : Nat) (hs : ∀ i : Nat, 0 ≤ (rd_T49 sh i).f2) (hline : line < l1.length) (hls : 0 < (rd_T49 sh line).f2) : needF l1 sh line = needG l1 sh line l1.length := by
  have hmem : line ∈ candF l1 sh (rd_T47 l1 line).f1 l1.length := candF_mem.2 ⟨hline, rfl, hls⟩
  have hperm : (waitL l1 sh (rd_T47 l1 line).f1).Perm (candF l1 sh (rd_T47 l1 line).f1 l1.length) := List.mergeSort_perm _ _
  have hnd : (waitL l1 sh (rd_T47 l1 line).f1).Nodup := hperm.nodup_iff.2 (by unfold candF; exact List.Pairwise.filter _ List.nodup_range)
  have hsort : (waitL l1 sh (rd_T47 l1 line).f1).Pairwise fun x y => (!decide (cfL l1 y x < 0)) = true := by
    unfold waitL
    refine List.pairwise_mergeSort (fun a b c h1 h2 => ?_) (fun a b => ?_) _
    · rw [cfL_not, decide_eq_true_eq] at *
      unfold turnLe at *
      omega
    · rw [cfL_not, cfL_not, Bool.or_eq_true, decide_eq_true_eq, decide_eq_true_eq]
      unfold turnLe
      omega
  obtain ⟨pre, rest, he⟩ := List.append_of_mem (hperm.mem_iff.2 hmem)
  rw [he] at hsort hnd
  have hnp : line ∉ pre := fun h => by
    have := (List.nodup_append.1 hnd).2.2 line h line (by simp)
    exact this rfl
  unfold needF
  rw [he, needTo_prefix _ _ _ _ hnp, ← sum_need l1 sh line hs, ← sumTo_perm _ (hperm.filter _), he]
  congr 1
  rw [List.filter_append]
  have h1 : pre.filter (fun i => decide (turnLe l1 i line)) = pre := by
    rw [List.filter_eq_self]
    intro a ha
    have := (List.pairwise_append.1 hsort).2.2 a ha line (by simp)
    rwa [cfL_not] at this
  have h2 : (line :: rest).filter (fun i => decide (turnLe l1 i line)) = [line] := by
    rw [List.filter_cons, if_pos (decide_eq_true (show turnLe l1 line line from Or.inr ⟨rfl, Nat.le_refl _⟩))]
    congr 1
    rw [List.filter_eq_nil_iff]
    intro a ha hh
    have hp := (List.pairwise_cons.1 (List.pairwise_append.1 hsort).2.1).1 a ha
    rw [cfL_not] at hp
    have hq := of_decide_eq_true hp
    have hh := of_decide_eq_true hh
    have hne : a ≠ line := fun e => by
      have := (List.nodup_cons.1 (List.nodup_append.1 hnd).2.1).1
      rw [e] at ha
      exact this ha
    unfold turnLe at hq hh
    omega
  rw [h1, h2]
theorem there_plain (l1 : List S47) (l2 : List S57) (sh : List S49) (line : Nat) (l3 : List S59) (hs : ∀ i : Nat, 0 ≤ (rd_T49 sh i).f2) (hline : line < l1.length) (hls : 0 < (rd_T49 sh line).f2) :
    thereF l1 l2 sh line l3 = dayF (fun d => cameBy l2 l3 (rd_T47 l1 line).f1 d l3.length) (needG l1 sh line l1.length) 101 0 := by
  unfold thereF
  rw [need_plain l1 sh line hs hline hls]
end Go.Proofs.YtegpepnmnlockaaDoor.PL
namespace Go.Proofs.YtegpepnmnlockaaDoor.PL
open Go.RowKit Go.Proofs.YtegpepnmnlockaaDoorW.PrintWords Go.Proofs.YtegpepnmnlockaaDoorW.PrintLast Go.Proofs.YtegpepnmnlockaaDoorW.PrintMore
set_option linter.unusedVariables false
set_option linter.unusedSimpArgs false
/-- The chapter's book. -/
def bk0 : List Int := [5, 2, 0]
def bk1 : List S47 := [⟨0, 0, 3, 10, -1⟩, ⟨0, 1, 4, 20, 0⟩, ⟨1, 2, 6, 30, -1⟩, ⟨2, 2, 5, 15, -1⟩, ⟨2, 0, 2, 40, -1⟩]
def bk2 : List S57 := [⟨2, ⟨5, 12⟩, ⟨4, 6⟩⟩, ⟨2, ⟨20, 28⟩, ⟨3, 9⟩⟩, ⟨0, ⟨30, 35⟩, ⟨1, 1⟩⟩]
def bkt : List S59 := [⟨6, 5⟩, ⟨20, 5⟩, ⟨30, 1⟩]
def bks : List S49 := [⟨3, 0, 0, 0⟩, ⟨2, 2, 0, 0⟩, ⟨0, 0, 6, 0⟩, ⟨0, 0, 1, 4⟩, ⟨0, 0, 1, 1⟩]
def bkp : List Int := [1, 0, 7]
def bkq : List Int := [1, 0, 4]
def bkw : List Int := [0]
def bkl : List Int := [0, 0, 0]
def bkb : List Int := [2, 3]
theorem book_val : wishbooklaw10_book.f = some (bk0, bk1, bk2) := by kernel_rfl
theorem then_val : wishbooklaw10_then.f = some bkt := by kernel_rfl
theorem shares_val : wishbooklaw10_shares.f = some bks := by kernel_rfl
theorem surely_val : lack_Surely.f bk0 bk1 bk2 2 28 = some (7, 0) := by kernel_rfl
theorem sharesL_val : lack_Shares.f bk0 bk1 bk2 = some (bks, 0) := by kernel_rfl
theorem missing_val : lack_Missing.f bk0 bk1 bk2 = some (bkp, bkq, 0) := by kernel_rfl
theorem whole_val : lack_Whole.f bk0 bk1 bk2 = some (bkw, 0) := by kernel_rfl
theorem left_val : lack_Left.f bk0 bk1 bk2 = some (bkl, 0) := by kernel_rfl
theorem bk_ok : okB bk0 bk1 bk2 = true := by kernel_rfl
theorem come_val : lack_Come.f bk0 bk1 bk2 2 bkt = some (20, 0) := by
  have h : lack_Come.f bk0 bk1 bk2 2 bkt = some (thereF bk1 bk2 (servF bk0 bk1 bk2).2 2 bkt, 0) := by kernel_rfl
  have hp : 0 < (rd_T49 (servF bk0 bk1 bk2).2 (2 : Nat)).f2 := of_decide_eq_true (by kernel_rfl)
  have hv : dayF (fun d => cameBy bk2 bkt (rd_T47 bk1 (2 : Nat)).f1 d bkt.length) (needG bk1 (servF bk0 bk1 bk2).2 2 bk1.length) 101 0 = 20 := by kernel_rfl
  exact h.trans (congrArg (fun x => some (x, (0 : Int))) ((there_plain bk1 bk2 _ 2 bkt (fun i => (share_bd (servF_ok bk_ok).2 i).1) (by decide) hp).trans hv))
theorem last_val : lack_Last.f bk0 bk1 bk2 2 = some (28, 0) := by
  have h : lack_Last.f bk0 bk1 bk2 2 = some (thereF bk1 bk2 (servF bk0 bk1 bk2).2 2 (lastCame bk2), 0) := by kernel_rfl
  have hp : 0 < (rd_T49 (servF bk0 bk1 bk2).2 (2 : Nat)).f2 := of_decide_eq_true (by kernel_rfl)
  have hv : dayF (fun d => cameBy bk2 (lastCame bk2) (rd_T47 bk1 (2 : Nat)).f1 d (lastCame bk2).length) (needG bk1 (servF bk0 bk1 bk2).2 2 bk1.length) 101 0 = 28 := by kernel_rfl
  exact h.trans (congrArg (fun x => some (x, (0 : Int))) ((there_plain bk1 bk2 _ 2 (lastCame bk2) (fun i => (share_bd (servF_ok bk_ok).2 i).1) (by decide) hp).trans hv))
theorem late_val : lack_Late.f bk0 bk1 bk2 0 = some (3, 0) := by kernel_rfl
theorem broken_val : lack_Broken.f bk0 bk1 bk2 1 = some (bkb, 0) := by kernel_rfl
theorem same_val : wishbookref10_SameShares.f 20 bks bks = some true := by kernel_rfl
theorem matchp_val : wishbookref00_Match.f 20 bkp bkp = some true := by kernel_rfl
theorem matchq_val : wishbookref00_Match.f 20 bkq bkq = some true := by kernel_rfl
theorem matchw_val : wishbookref00_Match.f 20 bkw bkw = some true := by kernel_rfl
theorem matchl_val : wishbookref00_Match.f 20 bkl bkl = some true := by kernel_rfl
theorem matchb_val : wishbookref00_Match.f 20 bkb bkb = some true := by kernel_rfl
/-- The chapter's book, read. -/
def BookC (w : World) (A0 A1 A2 : Option Addr) (c0 c1 c2 : Nat) : Prop := Kd.C (Kd.int .i64) w A0 bk0.length bk0 ∧ bk0.length ≤ c0 ∧ Kd.C k47 w A1 bk1.length bk1 ∧ bk1.length ≤ c1 ∧ Kd.C k57 w A2 bk2.length bk2 ∧ bk2.length ≤ c2
theorem book_calls (w : World) : Calls Tryd.prog 43 #[] w fun e w' => ∃ A0 c0 A1 c1 A2 c2, e = .returned (.agg #[.slice A0 bk0.length c0, .slice A1 bk1.length c1, .slice A2 bk2.length c2]) ∧ BookC w' A0 A1 A2 c0 c1 c2 ∧ Below w.heap.size w w' :=
  (wishbooklaw10_book.calls bk0 bk1 bk2 w book_val).mono fun e w' ⟨v0, v1, v2, he, h0, h1, h2, hb⟩ => by
    obtain ⟨A0, c0, rfl, g0, r0⟩ := Kd.R_reads h0
    obtain ⟨A1, c1, rfl, g1, r1⟩ := Kd.R_reads h1
    obtain ⟨A2, c2, rfl, g2, r2⟩ := Kd.R_reads h2
    exact ⟨A0, c0, A1, c1, A2, c2, he, ⟨r0, g0, r1, g1, r2, g2⟩, hb⟩
theorem same_calls (A B : Option Addr) (c d : Nat) (W : World) (h1 : Kd.C k49 W A bks.length bks) (g1 : bks.length ≤ c) (h2 : Kd.C k49 W B bks.length bks) (g2 : bks.length ≤ d) :
    Calls Tryd.prog 37 #[.slice A bks.length c, .slice B bks.length d] W fun e w' => e = .returned (.bool true) ∧ Below W.heap.size W w' :=
  (wishbookref10_SameShares.calls 20 A c bks B d bks true W h1 g1 h2 g2 same_val).mono fun e w' ⟨he, nd, hw⟩ => ⟨he, by rw [hw]; exact pw_below_drewN (Below.refl _ _) nd⟩
theorem match_calls (A : Option Addr) (c p n : Nat) (xs : List Int) (W : World) (h1 : Kd.C (Kd.int .i64) W A xs.length xs) (g1 : xs.length ≤ c) (hp : W.heap[p]? = some (.cells (nums .i64 xs).toArray 3 (0, 0))) (hn : xs.length = n) (hm : n ≤ 1000) (hv : wishbookref00_Match.f 20 xs xs = some true) :
    Calls Tryd.prog 16 #[.slice A xs.length c, .slice (some ⟨p, 0, none⟩) n n] W fun e w' => e = .returned (.bool true) ∧ Below W.heap.size W w' := by
  have hV := Kd.V_reads' (nums_V (base := 0) hp hn (Nat.zero_le _) hm)
  subst hn
  exact (wishbookref00_Match.calls 20 A c xs (some ⟨p, 0, none⟩) xs.length xs true W h1 g1 hV.2.2 hV.2.1 hv).mono fun e w' ⟨he, nd, hw⟩ => ⟨he, by rw [hw]; exact pw_below_drewN (Below.refl _ _) nd⟩
def wishbooklaw10_listed.f : Option Bool := some true
set_option maxHeartbeats 8000000 in
set_option maxRecDepth 100000 in
theorem wishbooklaw10_listed.calls (r : Bool) (w : World) (hfa : Fates w) (h : wishbooklaw10_listed.f = some r) :
    Calls Tryd.prog 19 #[] w fun e w' => e = .returned (.bool r) ∧ Below w.heap.size w w' := by
  cases h
  have HFA := Aside0.mk hfa
  clear hfa
  have HB := Aside0.mk (Below.refl w.heap.size w)
  go_enter Tryd.func19, Tryd.ntmps19
  go_wp2_with (fail)
  refine (book_calls _).mono ?_
  rintro e w1 ⟨A0, c0, A1, c1, A2, c2, rfl, hbc, hb⟩
  have HB_ := Aside0.mk (below_step HB.out hb)
  clear HB hb
  have HB := HB_
  clear HB_
  have HC := Aside0.mk hbc
  clear hbc
  go_wp2_with (fail)
  refine (lack_Surely.calls A0 c0 bk0 A1 c1 bk1 A2 c2 bk2 2 28 7 0 _ HC.out.1 HC.out.2.1 HC.out.2.2.1 HC.out.2.2.2.1 HC.out.2.2.2.2.1 HC.out.2.2.2.2.2 (Fates.below HFA.out HB.out) surely_val).mono ?_
  rintro e w2 ⟨rfl, hb⟩
  have HB_ := Aside0.mk (below_step HB.out hb)
  clear HB hb
  have HB := HB_
  clear HB_
  clear HC
  go_wp2_with (fail)
  refine (book_calls _).mono ?_
  rintro e w1 ⟨A0, c0, A1, c1, A2, c2, rfl, hbc, hb⟩
  have HB_ := Aside0.mk (below_step HB.out hb)
  clear HB hb
  have HB := HB_
  clear HB_
  have HC := Aside0.mk hbc
  clear hbc
  go_wp2_with (fail)
  refine (lack_Shares.calls A0 c0 bk0 A1 c1 bk1 A2 c2 bk2 bks 0 _ HC.out.1 HC.out.2.1 HC.out.2.2.1 HC.out.2.2.2.1 HC.out.2.2.2.2.1 HC.out.2.2.2.2.2 (Fates.below HFA.out HB.out) sharesL_val).mono ?_
  rintro e w2 ⟨s, rfl, hs, hb⟩
  have HB_ := Aside0.mk (below_step HB.out hb)
  clear HB hb
  have HB := HB_
  clear HB_
  obtain ⟨As, cs, rfl⟩ := Kd.V_slice hs
  have HVs := Aside0.mk hs
  clear hs
  clear HC
  go_wp2_with (fail)
  refine (book_calls _).mono ?_
  rintro e w1 ⟨A0, c0, A1, c1, A2, c2, rfl, hbc, hb⟩
  have HVs_ := Aside0.mk (Kd.V_below HVs.out hb)
  clear HVs
  have HVs := HVs_
  clear HVs_
  have HB_ := Aside0.mk (below_step HB.out hb)
  clear HB hb
  have HB := HB_
  clear HB_
  have HC := Aside0.mk hbc
  clear hbc
  go_wp2_with (fail)
  refine (lack_Missing.calls A0 c0 bk0 A1 c1 bk1 A2 c2 bk2 bkp bkq 0 _ HC.out.1 HC.out.2.1 HC.out.2.2.1 HC.out.2.2.2.1 HC.out.2.2.2.2.1 HC.out.2.2.2.2.2 (Fates.below HFA.out HB.out) missing_val).mono ?_
  rintro e w2 ⟨p, q, rfl, hp, hq, hb⟩
  have HVs_ := Aside0.mk (Kd.V_below HVs.out hb)
  clear HVs
  have HVs := HVs_
  clear HVs_
  have HB_ := Aside0.mk (below_step HB.out hb)
  clear HB hb
  have HB := HB_
  clear HB_
  obtain ⟨Ap, cp, rfl⟩ := Kd.V_slice hp
  have HVp := Aside0.mk hp
  clear hp
  obtain ⟨Aq, cq, rfl⟩ := Kd.V_slice hq
  have HVq := Aside0.mk hq
  clear hq
  clear HC
  go_wp2_with (fail)
  refine (book_calls _).mono ?_
  rintro e w1 ⟨A0, c0, A1, c1, A2, c2, rfl, hbc, hb⟩
  have HVs_ := Aside0.mk (Kd.V_below HVs.out hb)
  clear HVs
  have HVs := HVs_
  clear HVs_
  have HVp_ := Aside0.mk (Kd.V_below HVp.out hb)
  clear HVp
  have HVp := HVp_
  clear HVp_
  have HVq_ := Aside0.mk (Kd.V_below HVq.out hb)
  clear HVq
  have HVq := HVq_
  clear HVq_
  have HB_ := Aside0.mk (below_step HB.out hb)
  clear HB hb
  have HB := HB_
  clear HB_
  have HC := Aside0.mk hbc
  clear hbc
  go_wp2_with (fail)
  refine (lack_Whole.calls A0 c0 bk0 A1 c1 bk1 A2 c2 bk2 bkw 0 _ HC.out.1 HC.out.2.1 HC.out.2.2.1 HC.out.2.2.2.1 HC.out.2.2.2.2.1 HC.out.2.2.2.2.2 (Fates.below HFA.out HB.out) whole_val).mono ?_
  rintro e w2 ⟨v, rfl, hv, hb⟩
  have HVs_ := Aside0.mk (Kd.V_below HVs.out hb)
  clear HVs
  have HVs := HVs_
  clear HVs_
  have HVp_ := Aside0.mk (Kd.V_below HVp.out hb)
  clear HVp
  have HVp := HVp_
  clear HVp_
  have HVq_ := Aside0.mk (Kd.V_below HVq.out hb)
  clear HVq
  have HVq := HVq_
  clear HVq_
  have HB_ := Aside0.mk (below_step HB.out hb)
  clear HB hb
  have HB := HB_
  clear HB_
  obtain ⟨Av, cv, rfl⟩ := Kd.V_slice hv
  have HVv := Aside0.mk hv
  clear hv
  clear HC
  go_wp2_with (fail)
  refine (wishbooklaw10_shares.calls bks _ shares_val).mono ?_
  rintro e w3 ⟨v3, rfl, ho3, hb⟩
  have HVs_ := Aside0.mk (Kd.V_below HVs.out hb)
  clear HVs
  have HVs := HVs_
  clear HVs_
  have HVp_ := Aside0.mk (Kd.V_below HVp.out hb)
  clear HVp
  have HVp := HVp_
  clear HVp_
  have HVq_ := Aside0.mk (Kd.V_below HVq.out hb)
  clear HVq
  have HVq := HVq_
  clear HVq_
  have HVv_ := Aside0.mk (Kd.V_below HVv.out hb)
  clear HVv
  have HVv := HVv_
  clear HVv_
  have HB_ := Aside0.mk (below_step HB.out hb)
  clear HB hb
  have HB := HB_
  clear HB_
  obtain ⟨A3, c3, rfl, g3, r3⟩ := Kd.R_reads ho3
  clear ho3
  go_wp2_with (fail)
  refine (same_calls As A3 cs c3 _ (Kd.V_reads' HVs.out).2.2 (Kd.V_reads' HVs.out).2.1 r3 g3).mono ?_
  rintro e w4 ⟨rfl, hb⟩
  have HVs_ := Aside0.mk (Kd.V_below HVs.out hb)
  clear HVs
  have HVs := HVs_
  clear HVs_
  have HVp_ := Aside0.mk (Kd.V_below HVp.out hb)
  clear HVp
  have HVp := HVp_
  clear HVp_
  have HVq_ := Aside0.mk (Kd.V_below HVq.out hb)
  clear HVq
  have HVq := HVq_
  clear HVq_
  have HVv_ := Aside0.mk (Kd.V_below HVv.out hb)
  clear HVv
  have HVv := HVv_
  clear HVv_
  have HB_ := Aside0.mk (below_step HB.out hb)
  clear HB hb
  have HB := HB_
  clear HB_
  clear HVs
  go_wp2_with (fail)
  refine (match_calls Ap cp _ 3 bkp _ (Kd.V_reads' (Kd.V_alloc HVp.out _)).2.2 (Kd.V_reads' HVp.out).2.1 (heap_alloc_new _ _) rfl (by decide) matchp_val).mono ?_
  rintro e w5 ⟨rfl, hb⟩
  clear HVp
  have HVq_ := Aside0.mk (Kd.V_below (Kd.V_alloc HVq.out _) hb)
  clear HVq
  have HVq := HVq_
  clear HVq_
  have HVv_ := Aside0.mk (Kd.V_below (Kd.V_alloc HVv.out _) hb)
  clear HVv
  have HVv := HVv_
  clear HVv_
  have HB_ := Aside0.mk (below_step (below_alloc HB.out _) hb)
  clear HB hb
  have HB := HB_
  clear HB_
  go_wp2_with (fail)
  refine (match_calls Aq cq _ 3 bkq _ (Kd.V_reads' (Kd.V_alloc HVq.out _)).2.2 (Kd.V_reads' HVq.out).2.1 (heap_alloc_new _ _) rfl (by decide) matchq_val).mono ?_
  rintro e w5 ⟨rfl, hb⟩
  clear HVq
  have HVv_ := Aside0.mk (Kd.V_below (Kd.V_alloc HVv.out _) hb)
  clear HVv
  have HVv := HVv_
  clear HVv_
  have HB_ := Aside0.mk (below_step (below_alloc HB.out _) hb)
  clear HB hb
  have HB := HB_
  clear HB_
  go_wp2_with (fail)
  refine (match_calls Av cv _ 1 bkw _ (Kd.V_reads' (Kd.V_alloc HVv.out _)).2.2 (Kd.V_reads' HVv.out).2.1 (heap_alloc_new _ _) rfl (by decide) matchw_val).mono ?_
  rintro e w5 ⟨rfl, hb⟩
  clear HVv
  have HB_ := Aside0.mk (below_step (below_alloc HB.out _) hb)
  clear HB hb
  have HB := HB_
  clear HB_
  go_wp2_with (fail)
  refine (book_calls _).mono ?_
  rintro e w1 ⟨A0, c0, A1, c1, A2, c2, rfl, hbc, hb⟩
  have HB_ := Aside0.mk (below_step HB.out hb)
  clear HB hb
  have HB := HB_
  clear HB_
  have HC := Aside0.mk hbc
  clear hbc
  go_wp2_with (fail)
  refine (lack_Left.calls A0 c0 bk0 A1 c1 bk1 A2 c2 bk2 bkl 0 _ HC.out.1 HC.out.2.1 HC.out.2.2.1 HC.out.2.2.2.1 HC.out.2.2.2.2.1 HC.out.2.2.2.2.2 (Fates.below HFA.out HB.out) left_val).mono ?_
  rintro e w2 ⟨l, rfl, hl, hb⟩
  have HB_ := Aside0.mk (below_step HB.out hb)
  clear HB hb
  have HB := HB_
  clear HB_
  obtain ⟨Al, cl, rfl⟩ := Kd.V_slice hl
  have HVl := Aside0.mk hl
  clear hl
  clear HC
  go_wp2_with (fail)
  refine (book_calls _).mono ?_
  rintro e w1 ⟨A0, c0, A1, c1, A2, c2, rfl, hbc, hb⟩
  have HVl_ := Aside0.mk (Kd.V_below HVl.out hb)
  clear HVl
  have HVl := HVl_
  clear HVl_
  have HB_ := Aside0.mk (below_step HB.out hb)
  clear HB hb
  have HB := HB_
  clear HB_
  have HC := Aside0.mk hbc
  clear hbc
  go_wp2_with (fail)
  refine (wishbooklaw10_then.calls bkt _ then_val).mono ?_
  rintro e w6 ⟨v6, rfl, ho6, hb⟩
  have HCn := Aside0.mk (show BookC _ A0 A1 A2 c0 c1 c2 from ⟨Kd.C_below HC.out.1 hb, HC.out.2.1, Kd.C_below HC.out.2.2.1 hb, HC.out.2.2.2.1, Kd.C_below HC.out.2.2.2.2.1 hb, HC.out.2.2.2.2.2⟩)
  clear HC
  have HC := HCn
  clear HCn
  have HVl_ := Aside0.mk (Kd.V_below HVl.out hb)
  clear HVl
  have HVl := HVl_
  clear HVl_
  have HB_ := Aside0.mk (below_step HB.out hb)
  clear HB hb
  have HB := HB_
  clear HB_
  obtain ⟨A6, c6, rfl, g6, r6⟩ := Kd.R_reads ho6
  clear ho6
  go_wp2_with (fail)
  refine (lack_Come.calls A0 c0 bk0 A1 c1 bk1 A2 c2 bk2 2 A6 c6 bkt 20 0 _ HC.out.1 HC.out.2.1 HC.out.2.2.1 HC.out.2.2.2.1 HC.out.2.2.2.2.1 HC.out.2.2.2.2.2 r6 g6 (Fates.below HFA.out HB.out) come_val).mono ?_
  rintro e w7 ⟨rfl, hb⟩
  have HVl_ := Aside0.mk (Kd.V_below HVl.out hb)
  clear HVl
  have HVl := HVl_
  clear HVl_
  have HB_ := Aside0.mk (below_step HB.out hb)
  clear HB hb
  have HB := HB_
  clear HB_
  clear HC
  go_wp2_with (fail)
  refine (book_calls _).mono ?_
  rintro e w1 ⟨A0, c0, A1, c1, A2, c2, rfl, hbc, hb⟩
  have HVl_ := Aside0.mk (Kd.V_below HVl.out hb)
  clear HVl
  have HVl := HVl_
  clear HVl_
  have HB_ := Aside0.mk (below_step HB.out hb)
  clear HB hb
  have HB := HB_
  clear HB_
  have HC := Aside0.mk hbc
  clear hbc
  go_wp2_with (fail)
  refine (lack_Last.calls A0 c0 bk0 A1 c1 bk1 A2 c2 bk2 2 28 0 _ HC.out.1 HC.out.2.1 HC.out.2.2.1 HC.out.2.2.2.1 HC.out.2.2.2.2.1 HC.out.2.2.2.2.2 (Fates.below HFA.out HB.out) last_val).mono ?_
  rintro e w2 ⟨rfl, hb⟩
  have HVl_ := Aside0.mk (Kd.V_below HVl.out hb)
  clear HVl
  have HVl := HVl_
  clear HVl_
  have HB_ := Aside0.mk (below_step HB.out hb)
  clear HB hb
  have HB := HB_
  clear HB_
  clear HC
  go_wp2_with (fail)
  refine (book_calls _).mono ?_
  rintro e w1 ⟨A0, c0, A1, c1, A2, c2, rfl, hbc, hb⟩
  have HVl_ := Aside0.mk (Kd.V_below HVl.out hb)
  clear HVl
  have HVl := HVl_
  clear HVl_
  have HB_ := Aside0.mk (below_step HB.out hb)
  clear HB hb
  have HB := HB_
  clear HB_
  have HC := Aside0.mk hbc
  clear hbc
  go_wp2_with (fail)
  refine (lack_Late.calls A0 c0 bk0 A1 c1 bk1 A2 c2 bk2 0 3 0 _ HC.out.1 HC.out.2.1 HC.out.2.2.1 HC.out.2.2.2.1 HC.out.2.2.2.2.1 HC.out.2.2.2.2.2 (Fates.below HFA.out HB.out) late_val).mono ?_
  rintro e w2 ⟨rfl, hb⟩
  have HVl_ := Aside0.mk (Kd.V_below HVl.out hb)
  clear HVl
  have HVl := HVl_
  clear HVl_
  have HB_ := Aside0.mk (below_step HB.out hb)
  clear HB hb
  have HB := HB_
  clear HB_
  clear HC
  go_wp2_with (fail)
  refine (book_calls _).mono ?_
  rintro e w1 ⟨A0, c0, A1, c1, A2, c2, rfl, hbc, hb⟩
  have HVl_ := Aside0.mk (Kd.V_below HVl.out hb)
  clear HVl
  have HVl := HVl_
  clear HVl_
  have HB_ := Aside0.mk (below_step HB.out hb)
  clear HB hb
  have HB := HB_
  clear HB_
  have HC := Aside0.mk hbc
  clear hbc
  go_wp2_with (fail)
  refine (lack_Broken.calls A0 c0 bk0 A1 c1 bk1 A2 c2 bk2 1 bkb 0 _ HC.out.1 HC.out.2.1 HC.out.2.2.1 HC.out.2.2.2.1 HC.out.2.2.2.2.1 HC.out.2.2.2.2.2 (Fates.below HFA.out HB.out) broken_val).mono ?_
  rintro e w2 ⟨b, rfl, hb, hb⟩
  have HVl_ := Aside0.mk (Kd.V_below HVl.out hb)
  clear HVl
  have HVl := HVl_
  clear HVl_
  have HB_ := Aside0.mk (below_step HB.out hb)
  clear HB hb
  have HB := HB_
  clear HB_
  obtain ⟨Ab, cb, rfl⟩ := Kd.V_slice hb
  have HVb := Aside0.mk hb
  clear hb
  clear HC
  go_wp2_with (fail)
  refine (match_calls Al cl _ 3 bkl _ (Kd.V_reads' (Kd.V_alloc HVl.out _)).2.2 (Kd.V_reads' HVl.out).2.1 (heap_alloc_new _ _) rfl (by decide) matchl_val).mono ?_
  rintro e w5 ⟨rfl, hb⟩
  clear HVl
  have HVb_ := Aside0.mk (Kd.V_below (Kd.V_alloc HVb.out _) hb)
  clear HVb
  have HVb := HVb_
  clear HVb_
  have HB_ := Aside0.mk (below_step (below_alloc HB.out _) hb)
  clear HB hb
  have HB := HB_
  clear HB_
  go_wp2_with (fail)
  refine (match_calls Ab cb _ 2 bkb _ (Kd.V_reads' (Kd.V_alloc HVb.out _)).2.2 (Kd.V_reads' HVb.out).2.1 (heap_alloc_new _ _) rfl (by decide) matchb_val).mono ?_
  rintro e w5 ⟨rfl, hb⟩
  clear HVb
  have HB_ := Aside0.mk (below_step (below_alloc HB.out _) hb)
  clear HB hb
  have HB := HB_
  clear HB_
  go_wp2

  go_ret
  exact ⟨rfl, HB.out⟩
end Go.Proofs.YtegpepnmnlockaaDoor.PL
namespace Go.Proofs.YtegpepnmnlockaaDoor.PL
open Go.RowKit Go.Proofs.YtegpepnmnlockaaDoorW.PrintWords Go.Proofs.YtegpepnmnlockaaDoorW.PrintLast Go.Proofs.YtegpepnmnlockaaDoorW.PrintMore
set_option linter.unusedVariables false
set_option linter.unusedSimpArgs false
theorem keptF_iff (l1 : List S47) (good : Int) (sh : List S49) (F : Int → Int → Int) : keptF l1 good sh F = true ↔ ∀ d : Nat, d < 101 → dueTo l1 good d sh sh.length ≤ F good d := by
  unfold keptF keptUpto
  rw [List.all_eq_true]
  exact ⟨fun h d hd => of_decide_eq_true (h d (List.mem_range.2 hd)), fun h d hd => decide_eq_true (h d (List.mem_range.1 hd))⟩
theorem dueTo_snoc (l1 : List S47) (good d : Int) (sh : List S49) (s : S49) : dueTo l1 good d (sh ++ [s]) (sh ++ [s]).length = dueTo l1 good d sh sh.length + if (rd_T47 l1 sh.length).f1 = good ∧ (rd_T47 l1 sh.length).f3 ≤ d then s.f2 else 0 := by
  rw [List.length_append, List.length_singleton, dueTo, dueTo_cong l1 good d (sh ++ [s]) sh sh.length (fun j hj => by rw [rd_old49 _ _ hj]), rd_snoc49]
theorem keptN_listed {l1 : List S47} {good : Int} {sh : List S49} {F : Int → Int → Int} (h : keptF l1 good sh F = true) : ∀ n, keptN l1 good sh F (listedF l1 good sh F n) = true
  | 0 => by
    unfold keptN listedF
    rw [keptF_iff] at *
    intro d hd
    have := h d hd
    rw [dueTo_snoc]
    split <;> simp <;> omega
  | n + 1 => by
    rw [listedF]
    split
    · assumption
    · exact keptN_listed h n
/-- The list that is told can be kept, of each good, of the first lines. -/
theorem serve_kept {l0 : List Int} {l1 : List S47} {l2 : List S57} (hb : okB l0 l1 l2 = true) (F : Int → Int → Int) (hF : ∀ g d, 0 ≤ F g d) (good : Int) : ∀ k : Nat, k ≤ l1.length → keptF l1 good (serveF l1 F k 0 (left0 l0, [])).2 F = true
  | 0, _ => by
    rw [keptF_iff]
    intro d _
    exact hF good d
  | k + 1, hk => by
    have ih := serve_kept hb F hF good k (by omega)
    obtain ⟨e1, e2, e3, e4⟩ := serve_facts hb F k (by omega)
    have hs := serveF_snoc l1 F k 0 (left0 l0, [])
    rw [Nat.zero_add] at hs
    rw [hs]
    unfold stepF
    generalize serveF l1 F k 0 (left0 l0, []) = s at *
    dsimp only
    by_cases hg : (rd_T47 l1 k).f1 = good
    · subst hg
      have h2 := keptN_listed ih (wantF (rd_T47 l1 k) s.1).toNat
      unfold keptN at h2
      rw [keptF_iff] at *
      intro d hd
      have := h2 d hd
      rw [dueTo_snoc] at *
      exact this
    · rw [keptF_iff] at *
      intro d hd
      have := ih d hd
      rw [e2] at this
      rw [dueTo_snoc, e2, if_neg (fun h => hg h.1)]
      omega
theorem comTo_nonneg {l2 : List S57} (h : ∀ y ∈ l2, OkDel y) (g d : Int) : 0 ≤ comTo l2 l2.length g d := (comTo_bd h g d l2.length (Nat.le_refl _)).1
theorem serv_kept {l0 : List Int} {l1 : List S47} {l2 : List S57} (hb : okB l0 l1 l2 = true) (good : Int) : keptF l1 good (servF l0 l1 l2).2 (comTo l2 l2.length) = true :=
  serve_kept hb _ (comTo_nonneg (fun y hy => okDel_of (okB_facts hb).2.1 ((okB_facts hb).2.2.2.2.2.2.2 y hy))) good l1.length (Nat.le_refl _)
/-- What truly came by a day is no less than what surely has come. -/
theorem came_surely {l2 : List S57} {l3 : List S59} (hl : l3.length = l2.length) (hd : didAt l2 l3 l3.length = true) (hok : ∀ i : Nat, i < l2.length → 0 ≤ (rd_T57 l2 i).f2.f0) (g d : Int) (hdd : d ≤ 100) : ∀ n : Nat, n ≤ l3.length → comTo l2 n g d ≤ cameBy l2 l3 g d n
  | 0, _ => Int.le_refl _
  | n + 1, hn => by
    have ih := came_surely hl hd hok g d hdd n (by omega)
    have h0 := hok n (by omega)
    unfold didAt at hd
    rw [Bool.and_eq_true, List.all_eq_true] at hd
    have hx := hd.2 n (List.mem_range.2 (by omega))
    rw [Bool.and_eq_true, decide_eq_true_eq, decide_eq_true_eq] at hx
    unfold inDay inBy at hx
    rw [comTo, cameBy]
    split <;> split <;> omega
theorem need_due (l1 : List S47) (sh : List S49) (line : Nat) (hs : ∀ i : Nat, 0 ≤ (rd_T49 sh i).f2) : ∀ n, needG l1 sh line n ≤ dueTo l1 (rd_T47 l1 line).f1 (rd_T47 l1 line).f3 sh n
  | 0 => Int.le_refl _
  | n + 1 => by
    have ih := need_due l1 sh line hs n
    have h0 := hs n
    rw [needG, dueTo]
    unfold turnLe
    split <;> split <;> omega
/-- By the day by which its customer waits so much has come as a line needs. -/
theorem there_until {l0 : List Int} {l1 : List S47} {l2 : List S57} {l3 : List S59} (hb : okB l0 l1 l2 = true) (hl : l3.length = l2.length) (hd : didAt l2 l3 l3.length = true) (line : Nat) (hline : line < l1.length) :
    needG l1 (servF l0 l1 l2).2 line l1.length ≤ cameBy l2 l3 (rd_T47 l1 line).f1 (rd_T47 l1 line).f3 l3.length := by
  have f := okB_facts hb
  have hx := okB_line hb hline
  unfold okLine at hx
  have hlen := (servF_len l1 l2 f.2.1).2
  have hk := (keptF_iff _ _ _ _).1 (serv_kept hb (rd_T47 l1 line).f1) (rd_T47 l1 line).f3.toNat (by omega)
  rw [Int.toNat_of_nonneg (by omega), hlen] at hk
  have h1 := need_due l1 (servF l0 l1 l2).2 line (fun i => (share_bd (servF_ok hb).2 i).1) l1.length
  have h2 := came_surely hl hd (fun i hi => by have := okB_del hb hi; unfold okDel at this; omega) (rd_T47 l1 line).f1 (rd_T47 l1 line).f3 (by omega) l3.length (Nat.le_refl _)
  rw [hl] at *
  omega
end Go.Proofs.YtegpepnmnlockaaDoor.PL
namespace Go.Proofs.YtegpepnmnlockaaDoor.PL
open Go.RowKit Go.Proofs.YtegpepnmnlockaaDoorW.PrintWords Go.Proofs.YtegpepnmnlockaaDoorW.PrintLast Go.Proofs.YtegpepnmnlockaaDoorW.PrintMore
set_option linter.unusedVariables false
set_option linter.unusedSimpArgs false
theorem rd_put (xs : List Int) {j : Nat} (v : Int) (hj : j < xs.length) (i : Nat) : rd (xs.set j v) i = if i = j then v else rd xs i := by
  unfold rd
  rw [Int.toNat_natCast, List.getD_eq_getElem?_getD, List.getD_eq_getElem?_getD, List.getElem?_set]
  by_cases h : j = i
  · rw [if_pos h, if_pos hj, if_pos h.symm]; rfl
  · rw [if_neg h, if_neg (Ne.symm h)]
/-- What still must come till a line is served. -/
def remG (l1 : List S47) (wt : List Int) (line : Nat) : Nat → Int
  | 0 => 0
  | i + 1 => remG l1 wt line i + if turnLe l1 i line then rd wt i else 0
def WOk (l1 : List S47) (wt : List Int) : Prop := wt.length = l1.length ∧ ∀ i : Nat, 0 ≤ rd wt i ∧ rd wt i ≤ 20
theorem remG_nonneg {l1 : List S47} {wt : List Int} (h : WOk l1 wt) (line : Nat) : ∀ n, 0 ≤ remG l1 wt line n
  | 0 => Int.le_refl _
  | n + 1 => by
    have ih := remG_nonneg h line n
    have := (h.2 n).1
    rw [remG]
    split <;> omega
theorem remG_ge {l1 : List S47} {wt : List Int} (h : WOk l1 wt) (line : Nat) : ∀ n, line < n → rd wt line ≤ remG l1 wt line n
  | n + 1, hn => by
    have h0 := remG_nonneg h line n
    have h1 := (h.2 n).1
    rw [remG]
    by_cases e : line = n
    · rw [← e, if_pos (show turnLe l1 line line from Or.inr ⟨rfl, Nat.le_refl _⟩)]
      rw [← e] at h0
      omega
    · have ih := remG_ge h line n (by omega)
      split <;> omega
theorem remG_zero {l1 : List S47} {wt : List Int} {line : Nat} : ∀ n, (∀ i : Nat, i < n → turnLe l1 i line → rd wt i = 0) → remG l1 wt line n = 0
  | 0, _ => rfl
  | n + 1, h => by
    rw [remG, remG_zero n (fun i hi => h i (by omega))]
    split
    · rw [h n (by omega) ‹_›]; rfl
    · rfl
theorem remG_put {l1 : List S47} {wt : List Int} {line j : Nat} (v : Int) (hj : j < wt.length) (ht : turnLe l1 j line) : ∀ n, remG l1 (wt.set j v) line n = remG l1 wt line n + if j < n then v - rd wt j else 0
  | 0 => by rw [remG, remG, if_neg (by omega)]; rfl
  | n + 1 => by
    rw [remG, remG, remG_put v hj ht n, rd_put wt v hj]
    by_cases e : n = j
    · subst e
      rw [if_pos ht, if_pos rfl, if_pos ht, if_neg (by omega), if_pos (by omega)]
      omega
    · rw [if_neg e]
      by_cases c : j < n
      · rw [if_pos c, if_pos (show j < n + 1 by omega)]; omega
      · rw [if_neg c, if_neg (show ¬ j < n + 1 by omega)]; omega
/-- The line that is served next, of the first n. -/
def FP (l1 : List S47) (wt : List Int) (n : Nat) (r : Int) : Prop := (r = -1 ∧ ∀ j : Nat, j < n → rd wt j ≤ 0) ∨ ∃ j : Nat, r = j ∧ j < n ∧ 0 < rd wt j ∧ ∀ i : Nat, i < n → 0 < rd wt i → turnLe l1 j i
section
variable (l0 : List Int) (l1 : List S47) (l2 : List S57)
/-- One piece comes. -/
theorem piece {wt : List Int} {line : Nat} {r : Int} (h : WOk l1 wt) (hline : line < l1.length) (hw : 0 < rd wt line) (hr : FP l1 wt wt.length r) :
    ∃ j : Nat, r = j ∧ j < wt.length ∧ 0 < rd wt j ∧ WOk l1 (wt.set j (rd wt j - 1)) ∧ remG l1 (wt.set j (rd wt j - 1)) line l1.length = remG l1 wt line l1.length - 1 ∧ (rd (wt.set j (rd wt j - 1)) line = 0 ↔ remG l1 (wt.set j (rd wt j - 1)) line l1.length = 0) := by
  obtain ⟨hlen, hb⟩ := h
  rcases hr with ⟨_, hr⟩ | ⟨j, rfl, hj, hp, hm⟩
  · have := hr line (by omega); omega
  have ht := hm line (by omega) hw
  have hok : WOk l1 (wt.set j (rd wt j - 1)) := by
    refine ⟨by rw [List.length_set]; exact hlen, fun i => ?_⟩
    have b1 := hb i
    have b2 := hb j
    rw [rd_put wt _ hj]
    split <;> omega
  have hrem : remG l1 (wt.set j (rd wt j - 1)) line l1.length = remG l1 wt line l1.length - 1 := by
    rw [remG_put _ hj ht, if_pos (by omega)]
    omega
  refine ⟨j, rfl, hj, hp, hok, hrem, fun h0 => ?_, fun h0 => ?_⟩
  · refine remG_zero _ fun i hi hti => ?_
    rw [rd_put wt _ hj] at h0
    have b1 := hb i
    by_cases e : line = j
    · rw [if_pos e] at h0
      rw [rd_put wt _ hj]
      by_cases e2 : i = j
      · rw [if_pos e2]; exact h0
      · rw [if_neg e2]
        by_cases e3 : 0 < rd wt i
        · have := hm i (by omega) e3
          unfold turnLe at *
          rw [e] at hti
          omega
        · omega
    · rw [if_neg e] at h0; omega
  · have h1 := remG_ge hok line l1.length hline
    have h2 := hok.2 line
    omega
/-- How many pieces of a good come on a day, of the first n deliveries. -/
def dayCm (cm : List S59) (good d : Int) : Nat → Int
  | 0 => 0
  | i + 1 => dayCm cm good d i + if (rd_T57 l2 i).f0 = good ∧ (rd_T59 cm i).f0 = d then (rd_T59 cm i).f1 else 0
theorem cameBy_day (cm : List S59) (good d : Int) : ∀ n, cameBy l2 cm good d n = cameBy l2 cm good (d - 1) n + dayCm l2 cm good d n
  | 0 => rfl
  | n + 1 => by
    rw [cameBy, cameBy, dayCm, cameBy_day cm good d n]
    split <;> split <;> split <;> omega
end
end Go.Proofs.YtegpepnmnlockaaDoor.PL
namespace Go.Proofs.YtegpepnmnlockaaDoor.PL
open Go.RowKit Go.Proofs.YtegpepnmnlockaaDoorW.PrintWords Go.Proofs.YtegpepnmnlockaaDoorW.PrintLast Go.Proofs.YtegpepnmnlockaaDoorW.PrintMore
set_option linter.unusedVariables false
set_option linter.unusedSimpArgs false
section
variable (l0 : List Int) (l1 : List S47) (l2 : List S57)
theorem lastCame_len : (lastCame l2).length = l2.length := by unfold lastCame; rw [List.length_map]
theorem rd_lastCame {i : Nat} (h : i < l2.length) : rd_T59 (lastCame l2) i = ⟨(rd_T57 l2 i).f1.f1, (rd_T57 l2 i).f2.f0⟩ := by
  unfold rd_T59 rd_T57 lastCame
  rw [Int.toNat_natCast, List.getD_eq_getElem?_getD, List.getD_eq_getElem?_getD, List.getElem?_map, List.getElem?_eq_getElem h]
  rfl
theorem didAt_last (hb : okB l0 l1 l2 = true) : didAt l2 (lastCame l2) (lastCame l2).length = true := by
  unfold didAt
  rw [Bool.and_eq_true, beq_iff_eq, List.all_eq_true, lastCame_len]
  refine ⟨rfl, fun i hi => ?_⟩
  have hi := List.mem_range.1 hi
  have h := okB_del hb hi
  rw [rd_lastCame l2 hi, Bool.and_eq_true, decide_eq_true_iff, decide_eq_true_iff]
  unfold okDel at h
  unfold inDay inBy
  dsimp only
  omega
end
end Go.Proofs.YtegpepnmnlockaaDoor.PL
namespace Go.Proofs.YtegpepnmnlockaaDoor.PL
open Go.RowKit Go.Proofs.YtegpepnmnlockaaDoorW.PrintWords Go.Proofs.YtegpepnmnlockaaDoorW.PrintLast Go.Proofs.YtegpepnmnlockaaDoorW.PrintMore
attribute [local go_sem] max2_int min2_int max_two min_two max_three min_three max_four min_four   -- for this text's walks alone
set_option linter.unusedVariables false
set_option linter.unusedSimpArgs false
mutual
def wishbooklaw10_sound.j0 : Nat → Bool → List Int → List (S47) → List (S57) → Option (Bool)
  | 0, _, _, _, _ => none
  | k + 1, x3, x390000, x390001, x390002 => wishbooklaw10_sound.l0 k x3 0 x390000 x390001 x390002
def wishbooklaw10_sound.j2 : Nat → Bool → List Int → List (S47) → List (S57) → Option (Bool)
  | 0, _, _, _, _ => none
  | k + 1, x3, x390000, x390001, x390002 => wishbooklaw10_sound.l1 k x3 0 x390000 x390001 x390002
def wishbooklaw10_sound.l1 : Nat → Bool → Int → List Int → List (S47) → List (S57) → Option (Bool)
  | 0, _, _, _, _, _ => none
  | k + 1, x3, x5, x390000, x390001, x390002 => if x3 = true then (wishbooklaw10_sound.j4 k x3 x5 (decide (x5 < (x390001.length : Int))) x390000 x390001 x390002) else (wishbooklaw10_sound.j4 k x3 x5 false x390000 x390001 x390002)
def wishbooklaw10_sound.j4 : Nat → Bool → Int → Bool → List Int → List (S47) → List (S57) → Option (Bool)
  | 0, _, _, _, _, _, _ => none
  | k + 1, x3, x5, x53, x390000, x390001, x390002 => if x53 = true then (if 0 ≤ x5 then (if x5 < (x390001.length : Int) then ((wishbookref00_Tween.f ((rd_T47 x390001 x5).f0) 0 9).bind fun t397 => (if t397 = true then ((wishbookref00_Tween.f ((rd_T47 x390001 x5).f1) 0 (wrap64 ((x390000.length : Int) - 1))).bind fun t398 => (if t398 = true then ((wishbookref00_Tween.f ((rd_T47 x390001 x5).f2) 1 20).bind fun t399 => (if t399 = true then ((wishbookref00_Tween.f ((rd_T47 x390001 x5).f3) 0 100).bind fun t400 => (if t400 = true then ((wishbookref00_Tween.f ((rd_T47 x390001 x5).f4) (-1) (wrap64 ((x390000.length : Int) - 1))).bind fun t401 => (wishbooklaw10_sound.l1 k t401 (wrap64 (x5 + 1)) x390000 x390001 x390002)) else (wishbooklaw10_sound.l1 k false (wrap64 (x5 + 1)) x390000 x390001 x390002))) else (wishbooklaw10_sound.l1 k false (wrap64 (x5 + 1)) x390000 x390001 x390002))) else (wishbooklaw10_sound.l1 k false (wrap64 (x5 + 1)) x390000 x390001 x390002))) else (wishbooklaw10_sound.l1 k false (wrap64 (x5 + 1)) x390000 x390001 x390002))) else (none)) else (none)) else (wishbooklaw10_sound.l2 k x3 0 x390000 x390001 x390002)
def wishbooklaw10_sound.l2 : Nat → Bool → Int → List Int → List (S47) → List (S57) → Option (Bool)
  | 0, _, _, _, _, _ => none
  | k + 1, x3, x7, x390000, x390001, x390002 => if x3 = true then (wishbooklaw10_sound.j6 k x3 x7 (decide (x7 < (x390002.length : Int))) x390000 x390001 x390002) else (wishbooklaw10_sound.j6 k x3 x7 false x390000 x390001 x390002)
def wishbooklaw10_sound.j6 : Nat → Bool → Int → Bool → List Int → List (S47) → List (S57) → Option (Bool)
  | 0, _, _, _, _, _, _ => none
  | k + 1, x3, x7, x99, x390000, x390001, x390002 => if x99 = true then (if 0 ≤ x7 then (if x7 < (x390002.length : Int) then ((wishbookref00_Tween.f ((rd_T57 x390002 x7).f0) 0 (wrap64 ((x390000.length : Int) - 1))).bind fun t404 => (if t404 = true then ((wishbookref00_Proper.f ((rd_T57 x390002 x7).f1.f0) ((rd_T57 x390002 x7).f1.f1) 1 100).bind fun t405 => (if t405 = true then ((wishbookref00_Proper.f ((rd_T57 x390002 x7).f2.f0) ((rd_T57 x390002 x7).f2.f1) 0 50).bind fun t406 => (wishbooklaw10_sound.l2 k t406 (wrap64 (x7 + 1)) x390000 x390001 x390002)) else (wishbooklaw10_sound.l2 k false (wrap64 (x7 + 1)) x390000 x390001 x390002))) else (wishbooklaw10_sound.l2 k false (wrap64 (x7 + 1)) x390000 x390001 x390002))) else (none)) else (none)) else (some x3)
def wishbooklaw10_sound.l0 : Nat → Bool → Int → List Int → List (S47) → List (S57) → Option (Bool)
  | 0, _, _, _, _, _ => none
  | k + 1, x3, x4, x390000, x390001, x390002 => if x3 = true then (if x4 < (x390000.length : Int) then (if 0 ≤ x4 then ((wishbookref00_Tween.f (rd x390000 x4) 0 50).bind fun t394 => (wishbooklaw10_sound.l0 k t394 (wrap64 (x4 + 1)) x390000 x390001 x390002)) else (none)) else (wishbooklaw10_sound.j2 k x3 x390000 x390001 x390002)) else (wishbooklaw10_sound.j2 k x3 x390000 x390001 x390002)
end
def wishbooklaw10_sound.f (k : Nat) (l0_0 : List Int) (l0_1 : List (S47)) (l0_2 : List (S57)) : Option (Bool) := (lack_Check.f l0_0 l0_1 l0_2).bind fun t390 => (if t390 = 0 then ((wishbookref00_Tween.f (l0_0.length : Int) 1 5).bind fun t391 => (if t391 = true then ((wishbookref00_Tween.f (l0_1.length : Int) 1 10).bind fun t392 => (if t392 = true then (wishbooklaw10_sound.j0 k (decide ((l0_2.length : Int) ≤ 6)) l0_0 l0_1 l0_2) else (wishbooklaw10_sound.j0 k false l0_0 l0_1 l0_2))) else (wishbooklaw10_sound.j0 k false l0_0 l0_1 l0_2))) else (wishbooklaw10_sound.j0 k false l0_0 l0_1 l0_2))
theorem wishbooklaw10_sound.mono_l : ∀ k, (∀ y0 y1 y2 y3, LeO (wishbooklaw10_sound.j0 k y0 y1 y2 y3) (wishbooklaw10_sound.j0 (k + 1) y0 y1 y2 y3)) ∧ (∀ y0 y1 y2 y3, LeO (wishbooklaw10_sound.j2 k y0 y1 y2 y3) (wishbooklaw10_sound.j2 (k + 1) y0 y1 y2 y3)) ∧ (∀ y0 y1 y2 y3 y4, LeO (wishbooklaw10_sound.l1 k y0 y1 y2 y3 y4) (wishbooklaw10_sound.l1 (k + 1) y0 y1 y2 y3 y4)) ∧ (∀ y0 y1 y2 y3 y4 y5, LeO (wishbooklaw10_sound.j4 k y0 y1 y2 y3 y4 y5) (wishbooklaw10_sound.j4 (k + 1) y0 y1 y2 y3 y4 y5)) ∧ (∀ y0 y1 y2 y3 y4, LeO (wishbooklaw10_sound.l2 k y0 y1 y2 y3 y4) (wishbooklaw10_sound.l2 (k + 1) y0 y1 y2 y3 y4)) ∧ (∀ y0 y1 y2 y3 y4 y5, LeO (wishbooklaw10_sound.j6 k y0 y1 y2 y3 y4 y5) (wishbooklaw10_sound.j6 (k + 1) y0 y1 y2 y3 y4 y5)) ∧ (∀ y0 y1 y2 y3 y4, LeO (wishbooklaw10_sound.l0 k y0 y1 y2 y3 y4) (wishbooklaw10_sound.l0 (k + 1) y0 y1 y2 y3 y4))
  | 0 => ⟨fun _ _ _ _ r h => by simp [wishbooklaw10_sound.j0] at h, fun _ _ _ _ r h => by simp [wishbooklaw10_sound.j2] at h, fun _ _ _ _ _ r h => by simp [wishbooklaw10_sound.l1] at h, fun _ _ _ _ _ _ r h => by simp [wishbooklaw10_sound.j4] at h, fun _ _ _ _ _ r h => by simp [wishbooklaw10_sound.l2] at h, fun _ _ _ _ _ _ r h => by simp [wishbooklaw10_sound.j6] at h, fun _ _ _ _ _ r h => by simp [wishbooklaw10_sound.l0] at h⟩
  | k + 1 => by
    obtain ⟨ih0, ih1, ih2, ih3, ih4, ih5, ih6⟩ := wishbooklaw10_sound.mono_l k
    refine ⟨?_, ?_, ?_, ?_, ?_, ?_, ?_⟩
    · intro y0 y1 y2 y3
      unfold wishbooklaw10_sound.j0
      repeat' first
      | (with_reducible exact ih0 _ _ _ _)
      | (with_reducible exact ih1 _ _ _ _)
      | (with_reducible exact ih2 _ _ _ _ _)
      | (with_reducible exact ih3 _ _ _ _ _ _)
      | (with_reducible exact ih4 _ _ _ _ _)
      | (with_reducible exact ih5 _ _ _ _ _ _)
      | (with_reducible exact ih6 _ _ _ _ _)
      | (with_reducible exact LeO.refl _)
      | (with_reducible exact LeO.none _)
      | (with_reducible refine LeO.ite ?_ ?_)
      | (with_reducible refine LeO.bind ?_ (fun _ => ?_))
      | exact ih0 _ _ _ _
      | exact ih1 _ _ _ _
      | exact ih2 _ _ _ _ _
      | exact ih3 _ _ _ _ _ _
      | exact ih4 _ _ _ _ _
      | exact ih5 _ _ _ _ _ _
      | exact ih6 _ _ _ _ _
      | exact LeO.none _
      | refine LeO.ite ?_ ?_
      | refine LeO.bind ?_ (fun _ => ?_)
    · intro y0 y1 y2 y3
      unfold wishbooklaw10_sound.j2
      repeat' first
      | (with_reducible exact ih0 _ _ _ _)
      | (with_reducible exact ih1 _ _ _ _)
      | (with_reducible exact ih2 _ _ _ _ _)
      | (with_reducible exact ih3 _ _ _ _ _ _)
      | (with_reducible exact ih4 _ _ _ _ _)
      | (with_reducible exact ih5 _ _ _ _ _ _)
      | (with_reducible exact ih6 _ _ _ _ _)
      | (with_reducible exact LeO.refl _)
      | (with_reducible exact LeO.none _)
      | (with_reducible refine LeO.ite ?_ ?_)
      | (with_reducible refine LeO.bind ?_ (fun _ => ?_))
      | exact ih0 _ _ _ _
      | exact ih1 _ _ _ _
      | exact ih2 _ _ _ _ _
      | exact ih3 _ _ _ _ _ _
      | exact ih4 _ _ _ _ _
      | exact ih5 _ _ _ _ _ _
      | exact ih6 _ _ _ _ _
      | exact LeO.none _
      | refine LeO.ite ?_ ?_
      | refine LeO.bind ?_ (fun _ => ?_)
    · intro y0 y1 y2 y3 y4
      unfold wishbooklaw10_sound.l1
      repeat' first
      | (with_reducible exact ih0 _ _ _ _)
      | (with_reducible exact ih1 _ _ _ _)
      | (with_reducible exact ih2 _ _ _ _ _)
      | (with_reducible exact ih3 _ _ _ _ _ _)
      | (with_reducible exact ih4 _ _ _ _ _)
      | (with_reducible exact ih5 _ _ _ _ _ _)
      | (with_reducible exact ih6 _ _ _ _ _)
      | (with_reducible exact LeO.refl _)
      | (with_reducible exact LeO.none _)
      | (with_reducible refine LeO.ite ?_ ?_)
      | (with_reducible refine LeO.bind ?_ (fun _ => ?_))
      | exact ih0 _ _ _ _
      | exact ih1 _ _ _ _
      | exact ih2 _ _ _ _ _
      | exact ih3 _ _ _ _ _ _
      | exact ih4 _ _ _ _ _
      | exact ih5 _ _ _ _ _ _
      | exact ih6 _ _ _ _ _
      | exact LeO.none _
      | refine LeO.ite ?_ ?_
      | refine LeO.bind ?_ (fun _ => ?_)
    · intro y0 y1 y2 y3 y4 y5
      unfold wishbooklaw10_sound.j4
      repeat' first
      | (with_reducible exact ih0 _ _ _ _)
      | (with_reducible exact ih1 _ _ _ _)
      | (with_reducible exact ih2 _ _ _ _ _)
      | (with_reducible exact ih3 _ _ _ _ _ _)
      | (with_reducible exact ih4 _ _ _ _ _)
      | (with_reducible exact ih5 _ _ _ _ _ _)
      | (with_reducible exact ih6 _ _ _ _ _)
      | (with_reducible exact LeO.refl _)
      | (with_reducible exact LeO.none _)
      | (with_reducible refine LeO.ite ?_ ?_)
      | (with_reducible refine LeO.bind ?_ (fun _ => ?_))
      | exact ih0 _ _ _ _
      | exact ih1 _ _ _ _
      | exact ih2 _ _ _ _ _
      | exact ih3 _ _ _ _ _ _
      | exact ih4 _ _ _ _ _
      | exact ih5 _ _ _ _ _ _
      | exact ih6 _ _ _ _ _
      | exact LeO.none _
      | refine LeO.ite ?_ ?_
      | refine LeO.bind ?_ (fun _ => ?_)
    · intro y0 y1 y2 y3 y4
      unfold wishbooklaw10_sound.l2
      repeat' first
      | (with_reducible exact ih0 _ _ _ _)
      | (with_reducible exact ih1 _ _ _ _)
      | (with_reducible exact ih2 _ _ _ _ _)
      | (with_reducible exact ih3 _ _ _ _ _ _)
      | (with_reducible exact ih4 _ _ _ _ _)
      | (with_reducible exact ih5 _ _ _ _ _ _)
      | (with_reducible exact ih6 _ _ _ _ _)
      | (with_reducible exact LeO.refl _)
      | (with_reducible exact LeO.none _)
      | (with_reducible refine LeO.ite ?_ ?_)
      | (with_reducible refine LeO.bind ?_ (fun _ => ?_))
      | exact ih0 _ _ _ _
      | exact ih1 _ _ _ _
      | exact ih2 _ _ _ _ _
      | exact ih3 _ _ _ _ _ _
      | exact ih4 _ _ _ _ _
      | exact ih5 _ _ _ _ _ _
      | exact ih6 _ _ _ _ _
      | exact LeO.none _
      | refine LeO.ite ?_ ?_
      | refine LeO.bind ?_ (fun _ => ?_)
    · intro y0 y1 y2 y3 y4 y5
      unfold wishbooklaw10_sound.j6
      repeat' first
      | (with_reducible exact ih0 _ _ _ _)
      | (with_reducible exact ih1 _ _ _ _)
      | (with_reducible exact ih2 _ _ _ _ _)
      | (with_reducible exact ih3 _ _ _ _ _ _)
      | (with_reducible exact ih4 _ _ _ _ _)
      | (with_reducible exact ih5 _ _ _ _ _ _)
      | (with_reducible exact ih6 _ _ _ _ _)
      | (with_reducible exact LeO.refl _)
      | (with_reducible exact LeO.none _)
      | (with_reducible refine LeO.ite ?_ ?_)
      | (with_reducible refine LeO.bind ?_ (fun _ => ?_))
      | exact ih0 _ _ _ _
      | exact ih1 _ _ _ _
      | exact ih2 _ _ _ _ _
      | exact ih3 _ _ _ _ _ _
      | exact ih4 _ _ _ _ _
      | exact ih5 _ _ _ _ _ _
      | exact ih6 _ _ _ _ _
      | exact LeO.none _
      | refine LeO.ite ?_ ?_
      | refine LeO.bind ?_ (fun _ => ?_)
    · intro y0 y1 y2 y3 y4
      unfold wishbooklaw10_sound.l0
      repeat' first
      | (with_reducible exact ih0 _ _ _ _)
      | (with_reducible exact ih1 _ _ _ _)
      | (with_reducible exact ih2 _ _ _ _ _)
      | (with_reducible exact ih3 _ _ _ _ _ _)
      | (with_reducible exact ih4 _ _ _ _ _)
      | (with_reducible exact ih5 _ _ _ _ _ _)
      | (with_reducible exact ih6 _ _ _ _ _)
      | (with_reducible exact LeO.refl _)
      | (with_reducible exact LeO.none _)
      | (with_reducible refine LeO.ite ?_ ?_)
      | (with_reducible refine LeO.bind ?_ (fun _ => ?_))
      | exact ih0 _ _ _ _
      | exact ih1 _ _ _ _
      | exact ih2 _ _ _ _ _
      | exact ih3 _ _ _ _ _ _
      | exact ih4 _ _ _ _ _
      | exact ih5 _ _ _ _ _ _
      | exact ih6 _ _ _ _ _
      | exact LeO.none _
      | refine LeO.ite ?_ ?_
      | refine LeO.bind ?_ (fun _ => ?_)
theorem wishbooklaw10_sound.mono : ∀ a0 a1 a2 k, LeO (wishbooklaw10_sound.f k a0 a1 a2) (wishbooklaw10_sound.f (k + 1) a0 a1 a2) := by
  intro a0 a1 a2 k
  obtain ⟨ih0, ih1, ih2, ih3, ih4, ih5, ih6⟩ := wishbooklaw10_sound.mono_l k
  unfold wishbooklaw10_sound.f
  repeat' first
      | (with_reducible exact ih0 _ _ _ _)
      | (with_reducible exact ih1 _ _ _ _)
      | (with_reducible exact ih2 _ _ _ _ _)
      | (with_reducible exact ih3 _ _ _ _ _ _)
      | (with_reducible exact ih4 _ _ _ _ _)
      | (with_reducible exact ih5 _ _ _ _ _ _)
      | (with_reducible exact ih6 _ _ _ _ _)
      | (with_reducible exact LeO.refl _)
      | (with_reducible exact LeO.none _)
      | (with_reducible refine LeO.ite ?_ ?_)
      | (with_reducible refine LeO.bind ?_ (fun _ => ?_))
      | exact ih0 _ _ _ _
      | exact ih1 _ _ _ _
      | exact ih2 _ _ _ _ _
      | exact ih3 _ _ _ _ _ _
      | exact ih4 _ _ _ _ _
      | exact ih5 _ _ _ _ _ _
      | exact ih6 _ _ _ _ _
      | exact LeO.none _
      | refine LeO.ite ?_ ?_
      | refine LeO.bind ?_ (fun _ => ?_)
set_option maxHeartbeats 8000000 in
set_option maxRecDepth 100000 in
theorem wishbooklaw10_sound.calls (k : Nat) (A0_0 : Option Addr) (c0_0 : Nat) (l0_0 : List Int) (A0_1 : Option Addr) (c0_1 : Nat) (l0_1 : List (S47)) (A0_2 : Option Addr) (c0_2 : Nat) (l0_2 : List (S57)) (r : Bool) (w : World) (hr0_0 : Kd.C (Kd.int .i64) w A0_0 l0_0.length l0_0) (hc0_0 : l0_0.length ≤ c0_0) (hr0_1 : Kd.C k47 w A0_1 l0_1.length l0_1) (hc0_1 : l0_1.length ≤ c0_1) (hr0_2 : Kd.C k57 w A0_2 l0_2.length l0_2) (hc0_2 : l0_2.length ≤ c0_2) (h : wishbooklaw10_sound.f k l0_0 l0_1 l0_2 = some r) :
    Calls Tryd.prog 30 #[.agg #[.slice A0_0 l0_0.length c0_0, .slice A0_1 l0_1.length c0_1, .slice A0_2 l0_2.length c0_2]] w fun e w' => e = .returned (.bool r) ∧ Below w.heap.size w w' := by
  have hu26 := Tryd.underlying26
  have hu47 := Tryd.underlying47
  have hu57 := Tryd.underlying57
  have hu55 := Tryd.underlying55
  have HR0_0 := Aside0.mk hr0_0
  have HC0_0 := Aside0.mk hc0_0
  clear hr0_0 hc0_0
  have HR0_1 := Aside0.mk hr0_1
  have HC0_1 := Aside0.mk hc0_1
  clear hr0_1 hc0_1
  have HR0_2 := Aside0.mk hr0_2
  have HC0_2 := Aside0.mk hc0_2
  clear hr0_2 hc0_2
  have HB := Aside0.mk (Below.refl w.heap.size w)
  have H : ((lack_Check.f l0_0 l0_1 l0_2).bind fun t390 => (if t390 = 0 then ((wishbookref00_Tween.f (l0_0.length : Int) 1 5).bind fun t391 => (if t391 = true then ((wishbookref00_Tween.f (l0_1.length : Int) 1 10).bind fun t392 => (if t392 = true then (wishbooklaw10_sound.j0 k (decide ((l0_2.length : Int) ≤ 6)) l0_0 l0_1 l0_2) else (wishbooklaw10_sound.j0 k false l0_0 l0_1 l0_2))) else (wishbooklaw10_sound.j0 k false l0_0 l0_1 l0_2))) else (wishbooklaw10_sound.j0 k false l0_0 l0_1 l0_2))) = some r := h
  clear h
  have HC2 := Aside0.mk H
  clear H
  go_enter Tryd.func30, Tryd.ntmps30
  go_upto_region 1 with (first | ((with_reducible refine gate_dst (N := 1) rfl ?_); (try (refine gate_guard (by rfl) ?_; dsimp only)); refine box_event ?hg (N := 1) ?hd (cs := #[.slice A0_0 l0_0.length c0_0, .slice A0_1 l0_1.length c0_1, .slice A0_2 l0_2.length c0_2]) (t := 26) ?hr ?_; (case hd => rfl); (case hg => rfl); (case hr => first | (go_simp; done) | (go_simp; rfl)); intro gb389 hg w3 hbox hb; have n0_ := Aside0.mk (below_step (by repeat (first | (with_reducible first | exact HB.out | apply below_alloc | apply pw_below_drewN | apply below_drew1) | exact HB.out)) hb); have n1_ := Aside0.mk (hbox); have n2_ := Aside0.mk ((by rw [hg]; exact (below_size (by repeat (first | (with_reducible first | exact HB.out | apply below_alloc | apply pw_below_drewN | apply below_drew1) | exact HB.out))) : w.heap.size ≤ gb389)); have n3_ := Aside0.mk ((by rw [hg]; exact (below_size (by repeat (first | (with_reducible first | exact HB.out | apply below_alloc | apply pw_below_drewN | apply below_drew1) | exact HB.out))) : w.heap.size ≤ gb389)); clear HB; have HB := n0_; have BK389 := n1_; have GW389 := n2_; have GE389 := n3_; clear n0_ n1_ n2_ n3_; clear hb hbox hg))
  (try simp only [Act.put, List.setIfInBounds_toArray, List.set_cons_zero, List.set_cons_succ])
  go_cut [3] (fun v3 wc => ∃ (kq : Nat) (x3_1 : Bool), v3 = .bool x3_1 ∧ Aside0 (wishbooklaw10_sound.j0 kq x3_1 l0_0 l0_1 l0_2 = some r) ∧ Aside0 (kq ≤ k) ∧ Aside0 (wc.heap[gb389]? = some (.cells #[(.slice A0_0 l0_0.length c0_0), (.slice A0_1 l0_1.length c0_1), (.slice A0_2 l0_2.length c0_2)] 26 (0, 0))) ∧ Aside0 (Below w.heap.size w wc))
  case first =>
    have H := HC2.out
    clear HC2
    replace H := Option.bind_eq_some_iff.mp H
    obtain ⟨t390, A40, H⟩ := H
    replace H : (if t390 = 0 then ((wishbookref00_Tween.f (l0_0.length : Int) 1 5).bind fun t391 => (if t391 = true then ((wishbookref00_Tween.f (l0_1.length : Int) 1 10).bind fun t392 => (if t392 = true then (wishbooklaw10_sound.j0 k (decide ((l0_2.length : Int) ≤ 6)) l0_0 l0_1 l0_2) else (wishbooklaw10_sound.j0 k false l0_0 l0_1 l0_2))) else (wishbooklaw10_sound.j0 k false l0_0 l0_1 l0_2))) else (wishbooklaw10_sound.j0 k false l0_0 l0_1 l0_2)) = some r := H
    have A4 := Aside0.mk A40
    clear A40
    by_cases c5 : t390 = 0
    · rw [if_pos c5] at H
      have c5b0 : (t390 == 0) = true := beq_iff_eq.mpr c5
      have c5b1 : (t390 != 0) = false := bne_eq_false_iff_eq.mpr c5
      clear c5
      (first | rw [c5b0] | (simp only [i64_w, i32_w]; rw [c5b0]) | skip)
      replace H := Option.bind_eq_some_iff.mp H
      obtain ⟨t391, A60, H⟩ := H
      replace H : (if t391 = true then ((wishbookref00_Tween.f (l0_1.length : Int) 1 10).bind fun t392 => (if t392 = true then (wishbooklaw10_sound.j0 k (decide ((l0_2.length : Int) ≤ 6)) l0_0 l0_1 l0_2) else (wishbooklaw10_sound.j0 k false l0_0 l0_1 l0_2))) else (wishbooklaw10_sound.j0 k false l0_0 l0_1 l0_2)) = some r := H
      have A6 := Aside0.mk A60
      clear A60
      by_cases c7 : t391 = true
      · subst c7
        have H1 : ((wishbookref00_Tween.f (l0_1.length : Int) 1 10).bind fun t392 => (if t392 = true then (wishbooklaw10_sound.j0 k (decide ((l0_2.length : Int) ≤ 6)) l0_0 l0_1 l0_2) else (wishbooklaw10_sound.j0 k false l0_0 l0_1 l0_2))) = some r := by rw [if_pos rfl] at H; exact H
        clear H
        have H := H1
        clear H1
        replace H := Option.bind_eq_some_iff.mp H
        obtain ⟨t392, A80, H⟩ := H
        replace H : (if t392 = true then (wishbooklaw10_sound.j0 k (decide ((l0_2.length : Int) ≤ 6)) l0_0 l0_1 l0_2) else (wishbooklaw10_sound.j0 k false l0_0 l0_1 l0_2)) = some r := H
        have A8 := Aside0.mk A80
        clear A80
        by_cases c9 : t392 = true
        · subst c9
          have H1 : (wishbooklaw10_sound.j0 k (decide ((l0_2.length : Int) ≤ 6)) l0_0 l0_1 l0_2) = some r := by rw [if_pos rfl] at H; exact H
          clear H
          have H := H1
          clear H1
          have H' := Aside0.mk H
          clear H
          have hcz10_0 : w3.cell? ⟨gb389, 0, none⟩ = some (.slice A0_0 l0_0.length c0_0) := (blk_cell BK389.out 0).trans rfl
          have hcz10_1 : w3.cell? ⟨gb389, 1, none⟩ = some (.slice A0_1 l0_1.length c0_1) := (blk_cell BK389.out 1).trans rfl
          have hcz10_2 : w3.cell? ⟨gb389, 2, none⟩ = some (.slice A0_2 l0_2.length c0_2) := (blk_cell BK389.out 2).trans rfl
          have hfz10_0 := blk_frozen BK389.out 0
          have hfz10_1 := blk_frozen BK389.out 1
          have hfz10_2 := blk_frozen BK389.out 2
          go_wp2_with (first | ((with_reducible refine gate_callee (f := 44) rfl ?_); refine goesL_ (some 10) rfl rfl Tryd.func44 (by kernel_rfl) rfl #[.agg #[.slice A0_0 l0_0.length c0_0, .slice A0_1 l0_1.length c0_1, .slice A0_2 l0_2.length c0_2]] rfl (by (try simp only [List.map_toArray, List.map_cons, List.map_nil]); first | done | rfl | (simp only [List.length_drop, List.length_take]; rfl)) ?_; (with_reducible refine (lack_Check.calls _ _ l0_0 _ _ l0_1 _ _ l0_2 t390 _ ?side1 ?side2 ?side3 ?side4 ?side5 ?side6 A4.out).mono ?_); (case side1 => repeat (first | exact (Kd.C_below HR0_0.out HB.out) | (with_reducible refine Kd.C_alloc ?_ _) | (with_reducible refine Kd.C_drewN ?_ _) | (with_reducible refine Kd.C_drew ?_))); (case side2 => exact HC0_0.out); (case side3 => repeat (first | exact (Kd.C_below HR0_1.out HB.out) | (with_reducible refine Kd.C_alloc ?_ _) | (with_reducible refine Kd.C_drewN ?_ _) | (with_reducible refine Kd.C_drew ?_))); (case side4 => exact HC0_1.out); (case side5 => repeat (first | exact (Kd.C_below HR0_2.out HB.out) | (with_reducible refine Kd.C_alloc ?_ _) | (with_reducible refine Kd.C_drewN ?_ _) | (with_reducible refine Kd.C_drew ?_))); (case side6 => exact HC0_2.out); rintro e w11 ⟨rfl, hb⟩; refine ⟨_, rfl, ?_⟩; have n0_ := Aside0.mk (blk_below (g := gb389) (o := .cells #[.slice A0_0 l0_0.length c0_0, .slice A0_1 l0_1.length c0_1, .slice A0_2 l0_2.length c0_2] 26 (0, 0)) (by (with_reducible repeat (first | refine blk_drewN ?_ _ | refine blk_drew ?_ | refine blk_alloc ?_ _)); exact BK389.out) hb); have n1_ := Aside0.mk (below_step (by repeat (first | (with_reducible first | exact HB.out | apply below_alloc | apply pw_below_drewN | apply below_drew1 | refine below_set ?_ GE389.out) | exact HB.out)) hb); clear BK389; clear HB; have BK389 := n0_; have HB := n1_; clear n0_ n1_; (try clear hb); (try clear hb2); (try clear hk); (try clear hi); have hcz12_0 : w11.cell? ⟨gb389, 0, none⟩ = some (.slice A0_0 l0_0.length c0_0) := (blk_cell BK389.out 0).trans rfl; have hcz12_1 : w11.cell? ⟨gb389, 1, none⟩ = some (.slice A0_1 l0_1.length c0_1) := (blk_cell BK389.out 1).trans rfl; have hcz12_2 : w11.cell? ⟨gb389, 2, none⟩ = some (.slice A0_2 l0_2.length c0_2) := (blk_cell BK389.out 2).trans rfl; have hfz12_0 := blk_frozen BK389.out 0; have hfz12_1 := blk_frozen BK389.out 1; have hfz12_2 := blk_frozen BK389.out 2) | (go_at_call 34; (with_reducible refine (wishbookref00_Tween.calls (l0_0.length : Int) 1 5 true _ A6.out).mono ?_); rintro e w' ⟨rfl, ⟨nd, rfl⟩⟩) | (go_at_call 34; (with_reducible refine (wishbookref00_Tween.calls (l0_1.length : Int) 1 10 true _ A8.out).mono ?_); rintro e w' ⟨rfl, ⟨nd, rfl⟩⟩))
          go_meet
          case rel => exact ⟨_, (decide ((l0_2.length : Int) ≤ 6)), (by first | rfl | (simp; done) | (simp [*]; done)), H', ⟨by first | omega | exact Nat.le_refl _⟩, ⟨by (with_reducible repeat (first | refine blk_drewN ?_ _ | refine blk_drew ?_ | refine blk_alloc ?_ _)); exact BK389.out⟩, ⟨by repeat (first | (with_reducible first | exact HB.out | apply below_alloc | apply pw_below_drewN | apply below_drew1 | refine below_set ?_ GE389.out) | exact HB.out)⟩⟩
        · replace c9 := Bool.eq_false_iff.mpr c9
          subst c9
          have H1 : (wishbooklaw10_sound.j0 k false l0_0 l0_1 l0_2) = some r := by rw [if_neg (show ¬ (false = true) by decide)] at H; exact H
          clear H
          have H := H1
          clear H1
          have H' := Aside0.mk H
          clear H
          have hcz13_0 : w3.cell? ⟨gb389, 0, none⟩ = some (.slice A0_0 l0_0.length c0_0) := (blk_cell BK389.out 0).trans rfl
          have hcz13_1 : w3.cell? ⟨gb389, 1, none⟩ = some (.slice A0_1 l0_1.length c0_1) := (blk_cell BK389.out 1).trans rfl
          have hcz13_2 : w3.cell? ⟨gb389, 2, none⟩ = some (.slice A0_2 l0_2.length c0_2) := (blk_cell BK389.out 2).trans rfl
          have hfz13_0 := blk_frozen BK389.out 0
          have hfz13_1 := blk_frozen BK389.out 1
          have hfz13_2 := blk_frozen BK389.out 2
          go_wp2_with (first | ((with_reducible refine gate_callee (f := 44) rfl ?_); refine goesL_ (some 10) rfl rfl Tryd.func44 (by kernel_rfl) rfl #[.agg #[.slice A0_0 l0_0.length c0_0, .slice A0_1 l0_1.length c0_1, .slice A0_2 l0_2.length c0_2]] rfl (by (try simp only [List.map_toArray, List.map_cons, List.map_nil]); first | done | rfl | (simp only [List.length_drop, List.length_take]; rfl)) ?_; (with_reducible refine (lack_Check.calls _ _ l0_0 _ _ l0_1 _ _ l0_2 t390 _ ?side1 ?side2 ?side3 ?side4 ?side5 ?side6 A4.out).mono ?_); (case side1 => repeat (first | exact (Kd.C_below HR0_0.out HB.out) | (with_reducible refine Kd.C_alloc ?_ _) | (with_reducible refine Kd.C_drewN ?_ _) | (with_reducible refine Kd.C_drew ?_))); (case side2 => exact HC0_0.out); (case side3 => repeat (first | exact (Kd.C_below HR0_1.out HB.out) | (with_reducible refine Kd.C_alloc ?_ _) | (with_reducible refine Kd.C_drewN ?_ _) | (with_reducible refine Kd.C_drew ?_))); (case side4 => exact HC0_1.out); (case side5 => repeat (first | exact (Kd.C_below HR0_2.out HB.out) | (with_reducible refine Kd.C_alloc ?_ _) | (with_reducible refine Kd.C_drewN ?_ _) | (with_reducible refine Kd.C_drew ?_))); (case side6 => exact HC0_2.out); rintro e w14 ⟨rfl, hb⟩; refine ⟨_, rfl, ?_⟩; have n0_ := Aside0.mk (blk_below (g := gb389) (o := .cells #[.slice A0_0 l0_0.length c0_0, .slice A0_1 l0_1.length c0_1, .slice A0_2 l0_2.length c0_2] 26 (0, 0)) (by (with_reducible repeat (first | refine blk_drewN ?_ _ | refine blk_drew ?_ | refine blk_alloc ?_ _)); exact BK389.out) hb); have n1_ := Aside0.mk (below_step (by repeat (first | (with_reducible first | exact HB.out | apply below_alloc | apply pw_below_drewN | apply below_drew1 | refine below_set ?_ GE389.out) | exact HB.out)) hb); clear BK389; clear HB; have BK389 := n0_; have HB := n1_; clear n0_ n1_; (try clear hb); (try clear hb2); (try clear hk); (try clear hi); have hcz15_0 : w14.cell? ⟨gb389, 0, none⟩ = some (.slice A0_0 l0_0.length c0_0) := (blk_cell BK389.out 0).trans rfl; have hcz15_1 : w14.cell? ⟨gb389, 1, none⟩ = some (.slice A0_1 l0_1.length c0_1) := (blk_cell BK389.out 1).trans rfl; have hcz15_2 : w14.cell? ⟨gb389, 2, none⟩ = some (.slice A0_2 l0_2.length c0_2) := (blk_cell BK389.out 2).trans rfl; have hfz15_0 := blk_frozen BK389.out 0; have hfz15_1 := blk_frozen BK389.out 1; have hfz15_2 := blk_frozen BK389.out 2) | (go_at_call 34; (with_reducible refine (wishbookref00_Tween.calls (l0_0.length : Int) 1 5 true _ A6.out).mono ?_); rintro e w' ⟨rfl, ⟨nd, rfl⟩⟩) | (go_at_call 34; (with_reducible refine (wishbookref00_Tween.calls (l0_1.length : Int) 1 10 false _ A8.out).mono ?_); rintro e w' ⟨rfl, ⟨nd, rfl⟩⟩))
          go_meet
          case rel => exact ⟨_, (false), (by first | rfl | (simp; done) | (simp [*]; done)), H', ⟨by first | omega | exact Nat.le_refl _⟩, ⟨by (with_reducible repeat (first | refine blk_drewN ?_ _ | refine blk_drew ?_ | refine blk_alloc ?_ _)); exact BK389.out⟩, ⟨by repeat (first | (with_reducible first | exact HB.out | apply below_alloc | apply pw_below_drewN | apply below_drew1 | refine below_set ?_ GE389.out) | exact HB.out)⟩⟩
      · replace c7 := Bool.eq_false_iff.mpr c7
        subst c7
        have H1 : (wishbooklaw10_sound.j0 k false l0_0 l0_1 l0_2) = some r := by rw [if_neg (show ¬ (false = true) by decide)] at H; exact H
        clear H
        have H := H1
        clear H1
        have H' := Aside0.mk H
        clear H
        have hcz16_0 : w3.cell? ⟨gb389, 0, none⟩ = some (.slice A0_0 l0_0.length c0_0) := (blk_cell BK389.out 0).trans rfl
        have hcz16_1 : w3.cell? ⟨gb389, 1, none⟩ = some (.slice A0_1 l0_1.length c0_1) := (blk_cell BK389.out 1).trans rfl
        have hcz16_2 : w3.cell? ⟨gb389, 2, none⟩ = some (.slice A0_2 l0_2.length c0_2) := (blk_cell BK389.out 2).trans rfl
        have hfz16_0 := blk_frozen BK389.out 0
        have hfz16_1 := blk_frozen BK389.out 1
        have hfz16_2 := blk_frozen BK389.out 2
        go_wp2_with (first | ((with_reducible refine gate_callee (f := 44) rfl ?_); refine goesL_ (some 10) rfl rfl Tryd.func44 (by kernel_rfl) rfl #[.agg #[.slice A0_0 l0_0.length c0_0, .slice A0_1 l0_1.length c0_1, .slice A0_2 l0_2.length c0_2]] rfl (by (try simp only [List.map_toArray, List.map_cons, List.map_nil]); first | done | rfl | (simp only [List.length_drop, List.length_take]; rfl)) ?_; (with_reducible refine (lack_Check.calls _ _ l0_0 _ _ l0_1 _ _ l0_2 t390 _ ?side1 ?side2 ?side3 ?side4 ?side5 ?side6 A4.out).mono ?_); (case side1 => repeat (first | exact (Kd.C_below HR0_0.out HB.out) | (with_reducible refine Kd.C_alloc ?_ _) | (with_reducible refine Kd.C_drewN ?_ _) | (with_reducible refine Kd.C_drew ?_))); (case side2 => exact HC0_0.out); (case side3 => repeat (first | exact (Kd.C_below HR0_1.out HB.out) | (with_reducible refine Kd.C_alloc ?_ _) | (with_reducible refine Kd.C_drewN ?_ _) | (with_reducible refine Kd.C_drew ?_))); (case side4 => exact HC0_1.out); (case side5 => repeat (first | exact (Kd.C_below HR0_2.out HB.out) | (with_reducible refine Kd.C_alloc ?_ _) | (with_reducible refine Kd.C_drewN ?_ _) | (with_reducible refine Kd.C_drew ?_))); (case side6 => exact HC0_2.out); rintro e w17 ⟨rfl, hb⟩; refine ⟨_, rfl, ?_⟩; have n0_ := Aside0.mk (blk_below (g := gb389) (o := .cells #[.slice A0_0 l0_0.length c0_0, .slice A0_1 l0_1.length c0_1, .slice A0_2 l0_2.length c0_2] 26 (0, 0)) (by (with_reducible repeat (first | refine blk_drewN ?_ _ | refine blk_drew ?_ | refine blk_alloc ?_ _)); exact BK389.out) hb); have n1_ := Aside0.mk (below_step (by repeat (first | (with_reducible first | exact HB.out | apply below_alloc | apply pw_below_drewN | apply below_drew1 | refine below_set ?_ GE389.out) | exact HB.out)) hb); clear BK389; clear HB; have BK389 := n0_; have HB := n1_; clear n0_ n1_; (try clear hb); (try clear hb2); (try clear hk); (try clear hi); have hcz18_0 : w17.cell? ⟨gb389, 0, none⟩ = some (.slice A0_0 l0_0.length c0_0) := (blk_cell BK389.out 0).trans rfl; have hcz18_1 : w17.cell? ⟨gb389, 1, none⟩ = some (.slice A0_1 l0_1.length c0_1) := (blk_cell BK389.out 1).trans rfl; have hcz18_2 : w17.cell? ⟨gb389, 2, none⟩ = some (.slice A0_2 l0_2.length c0_2) := (blk_cell BK389.out 2).trans rfl; have hfz18_0 := blk_frozen BK389.out 0; have hfz18_1 := blk_frozen BK389.out 1; have hfz18_2 := blk_frozen BK389.out 2) | (go_at_call 34; (with_reducible refine (wishbookref00_Tween.calls (l0_0.length : Int) 1 5 false _ A6.out).mono ?_); rintro e w' ⟨rfl, ⟨nd, rfl⟩⟩))
        go_meet
        case rel => exact ⟨_, (false), (by first | rfl | (simp; done) | (simp [*]; done)), H', ⟨by first | omega | exact Nat.le_refl _⟩, ⟨by (with_reducible repeat (first | refine blk_drewN ?_ _ | refine blk_drew ?_ | refine blk_alloc ?_ _)); exact BK389.out⟩, ⟨by repeat (first | (with_reducible first | exact HB.out | apply below_alloc | apply pw_below_drewN | apply below_drew1 | refine below_set ?_ GE389.out) | exact HB.out)⟩⟩
    · rw [if_neg c5] at H
      have c5b0 : (t390 == 0) = false := beq_eq_false_iff_ne.mpr c5
      have c5b1 : (t390 != 0) = true := bne_iff_ne.mpr c5
      (first | rw [c5b0] | (simp only [i64_w, i32_w]; rw [c5b0]) | skip)
      have H' := Aside0.mk H
      clear H
      have hcz19_0 : w3.cell? ⟨gb389, 0, none⟩ = some (.slice A0_0 l0_0.length c0_0) := (blk_cell BK389.out 0).trans rfl
      have hcz19_1 : w3.cell? ⟨gb389, 1, none⟩ = some (.slice A0_1 l0_1.length c0_1) := (blk_cell BK389.out 1).trans rfl
      have hcz19_2 : w3.cell? ⟨gb389, 2, none⟩ = some (.slice A0_2 l0_2.length c0_2) := (blk_cell BK389.out 2).trans rfl
      have hfz19_0 := blk_frozen BK389.out 0
      have hfz19_1 := blk_frozen BK389.out 1
      have hfz19_2 := blk_frozen BK389.out 2
      go_wp2_with (first | ((with_reducible refine gate_callee (f := 44) rfl ?_); refine goesL_ (some 10) rfl rfl Tryd.func44 (by kernel_rfl) rfl #[.agg #[.slice A0_0 l0_0.length c0_0, .slice A0_1 l0_1.length c0_1, .slice A0_2 l0_2.length c0_2]] rfl (by (try simp only [List.map_toArray, List.map_cons, List.map_nil]); first | done | rfl | (simp only [List.length_drop, List.length_take]; rfl)) ?_; (with_reducible refine (lack_Check.calls _ _ l0_0 _ _ l0_1 _ _ l0_2 t390 _ ?side1 ?side2 ?side3 ?side4 ?side5 ?side6 A4.out).mono ?_); (case side1 => repeat (first | exact (Kd.C_below HR0_0.out HB.out) | (with_reducible refine Kd.C_alloc ?_ _) | (with_reducible refine Kd.C_drewN ?_ _) | (with_reducible refine Kd.C_drew ?_))); (case side2 => exact HC0_0.out); (case side3 => repeat (first | exact (Kd.C_below HR0_1.out HB.out) | (with_reducible refine Kd.C_alloc ?_ _) | (with_reducible refine Kd.C_drewN ?_ _) | (with_reducible refine Kd.C_drew ?_))); (case side4 => exact HC0_1.out); (case side5 => repeat (first | exact (Kd.C_below HR0_2.out HB.out) | (with_reducible refine Kd.C_alloc ?_ _) | (with_reducible refine Kd.C_drewN ?_ _) | (with_reducible refine Kd.C_drew ?_))); (case side6 => exact HC0_2.out); rintro e w20 ⟨rfl, hb⟩; refine ⟨_, rfl, ?_⟩; have n0_ := Aside0.mk (blk_below (g := gb389) (o := .cells #[.slice A0_0 l0_0.length c0_0, .slice A0_1 l0_1.length c0_1, .slice A0_2 l0_2.length c0_2] 26 (0, 0)) (by (with_reducible repeat (first | refine blk_drewN ?_ _ | refine blk_drew ?_ | refine blk_alloc ?_ _)); exact BK389.out) hb); have n1_ := Aside0.mk (below_step (by repeat (first | (with_reducible first | exact HB.out | apply below_alloc | apply pw_below_drewN | apply below_drew1 | refine below_set ?_ GE389.out) | exact HB.out)) hb); clear BK389; clear HB; have BK389 := n0_; have HB := n1_; clear n0_ n1_; (try clear hb); (try clear hb2); (try clear hk); (try clear hi)))
      go_meet
      case rel => exact ⟨_, (false), (by first | rfl | (simp; done) | (simp [*]; done)), H', ⟨by first | omega | exact Nat.le_refl _⟩, ⟨by (with_reducible repeat (first | refine blk_drewN ?_ _ | refine blk_drew ?_ | refine blk_alloc ?_ _)); exact BK389.out⟩, ⟨by repeat (first | (with_reducible first | exact HB.out | apply below_alloc | apply pw_below_drewN | apply below_drew1 | refine below_set ?_ GE389.out) | exact HB.out)⟩⟩
  case rest =>
    clear HC2
    try clear p2
    try clear c3
    try clear c4
    try clear c5
    try clear c5b0
    try clear c5b1
    try clear c7
    try clear c9
    try clear hcz10_0
    try clear hcz10_1
    try clear hcz10_2
    try clear hcz12_0
    try clear hcz12_1
    try clear hcz12_2
    try clear hcz13_0
    try clear hcz13_1
    try clear hcz13_2
    try clear hcz15_0
    try clear hcz15_1
    try clear hcz15_2
    try clear hcz16_0
    try clear hcz16_1
    try clear hcz16_2
    try clear hcz18_0
    try clear hcz18_1
    try clear hcz18_2
    try clear hcz19_0
    try clear hcz19_1
    try clear hcz19_2
    try clear hfz10_0
    try clear hfz10_1
    try clear hfz10_2
    try clear hfz12_0
    try clear hfz12_1
    try clear hfz12_2
    try clear hfz13_0
    try clear hfz13_1
    try clear hfz13_2
    try clear hfz15_0
    try clear hfz15_1
    try clear hfz15_2
    try clear hfz16_0
    try clear hfz16_1
    try clear hfz16_2
    try clear hfz18_0
    try clear hfz18_1
    try clear hfz18_2
    try clear hfz19_0
    try clear hfz19_1
    try clear hfz19_2
    obtain ⟨kq, x3_1, rfl, HA, HJ1, BK389, HB⟩ := hcut
    cases kq with
    | zero => exact absurd HA.out (by simp [wishbooklaw10_sound.j0])
    | succ kj1 =>
      have H := HA.out
      clear HA
      simp only [wishbooklaw10_sound.j0] at H
      have HC21 := Aside0.mk H
      clear H
      go_upto_block 0 with (fail)
      go_cut [3] (fun v3 wc => ∃ (kq : Nat) (x3_20 : Bool), v3 = .bool x3_20 ∧ Aside0 (wishbooklaw10_sound.j2 kq x3_20 l0_0 l0_1 l0_2 = some r) ∧ Aside0 (kq ≤ kj1) ∧ Aside0 (wc.heap[gb389]? = some (.cells #[(.slice A0_0 l0_0.length c0_0), (.slice A0_1 l0_1.length c0_1), (.slice A0_2 l0_2.length c0_2)] 26 (0, 0))) ∧ Aside0 (Below w.heap.size w wc))
      case first =>
        have H := HC21.out
        clear HC21
        have H' := Aside0.mk H
        clear H
        go_wp2
        go_loopg [3, 4] kj1 (fun kq v3 v4 w' => ∃ (x3_2 : Bool) (x4_2 : Int), v3 = .bool x3_2 ∧ v4 = .int .i64 x4_2 ∧ Aside0 (wishbooklaw10_sound.l0 kq x3_2 x4_2 l0_0 l0_1 l0_2 = some r) ∧ Aside0 (kq ≤ kj1) ∧ Aside0 (w'.heap[gb389]? = some (.cells #[(.slice A0_0 l0_0.length c0_0), (.slice A0_1 l0_1.length c0_1), (.slice A0_2 l0_2.length c0_2)] 26 (0, 0))) ∧ Aside0 (Below w.heap.size w w'))
        case atStart => exact ⟨(x3_1), (0), (by first | rfl | (simp; done) | (simp [*]; done)), (by first | rfl | (simp; done) | (simp [*]; done)), H', ⟨Nat.le_refl _⟩, ⟨by (with_reducible repeat (first | refine blk_drewN ?_ _ | refine blk_drew ?_ | refine blk_alloc ?_ _)); exact BK389.out⟩, ⟨by repeat (first | (with_reducible first | exact HB.out | apply below_alloc | apply pw_below_drewN | apply below_drew1 | refine below_set ?_ GE389.out) | exact HB.out)⟩⟩
        case round =>
          clear H'
          try clear p2
          try clear c3
          try clear c4
          try clear c5
          try clear c5b0
          try clear c5b1
          try clear c7
          try clear c9
          try clear hcz10_0
          try clear hcz10_1
          try clear hcz10_2
          try clear hcz12_0
          try clear hcz12_1
          try clear hcz12_2
          try clear hcz13_0
          try clear hcz13_1
          try clear hcz13_2
          try clear hcz15_0
          try clear hcz15_1
          try clear hcz15_2
          try clear hcz16_0
          try clear hcz16_1
          try clear hcz16_2
          try clear hcz18_0
          try clear hcz18_1
          try clear hcz18_2
          try clear hcz19_0
          try clear hcz19_1
          try clear hcz19_2
          try clear hfz10_0
          try clear hfz10_1
          try clear hfz10_2
          try clear hfz12_0
          try clear hfz12_1
          try clear hfz12_2
          try clear hfz13_0
          try clear hfz13_1
          try clear hfz13_2
          try clear hfz15_0
          try clear hfz15_1
          try clear hfz15_2
          try clear hfz16_0
          try clear hfz16_1
          try clear hfz16_2
          try clear hfz18_0
          try clear hfz18_1
          try clear hfz18_2
          try clear hfz19_0
          try clear hfz19_1
          try clear hfz19_2
          try clear p2
          obtain ⟨x3_2, x4_2, rfl, rfl, HA, HK2, BK389, HB⟩ := hrel
          cases gk with
          | zero => exact absurd HA.out (by simp [wishbooklaw10_sound.l0])
          | succ k2 =>
            have H := HA.out
            clear HA
            simp only [wishbooklaw10_sound.l0] at H
            by_cases c22 : x3_2 = true
            · subst c22
              have H1 : (if x4_2 < (l0_0.length : Int) then (if 0 ≤ x4_2 then ((wishbookref00_Tween.f (rd l0_0 x4_2) 0 50).bind fun t394 => (wishbooklaw10_sound.l0 k2 t394 (wrap64 (x4_2 + 1)) l0_0 l0_1 l0_2)) else (none)) else (wishbooklaw10_sound.j2 k2 true l0_0 l0_1 l0_2)) = some r := by rw [if_pos rfl] at H; exact H
              clear H
              have H := H1
              clear H1
              by_cases c23 : x4_2 < (l0_0.length : Int)
              · rw [if_pos c23] at H
                have c23b0 : decide (x4_2 < (l0_0.length : Int)) = true := decide_eq_true c23
                clear c23
                (first | rw [c23b0] | (simp only [i64_w, i32_w]; rw [c23b0]) | skip)
                by_cases c24 : 0 ≤ x4_2
                · rw [if_pos c24] at H
                  have c24b0 : decide (0 ≤ x4_2) = true := decide_eq_true c24
                  clear c24
                  replace H := Option.bind_eq_some_iff.mp H
                  obtain ⟨t394, A250, H⟩ := H
                  replace H : (wishbooklaw10_sound.l0 k2 t394 (wrap64 (x4_2 + 1)) l0_0 l0_1 l0_2) = some r := H
                  have A25 := Aside0.mk A250
                  clear A250
                  have H' := Aside0.mk H
                  clear H
                  have hcz26_0 : wr.cell? ⟨gb389, 0, none⟩ = some (.slice A0_0 l0_0.length c0_0) := (blk_cell BK389.out 0).trans rfl
                  have hcz26_1 : wr.cell? ⟨gb389, 1, none⟩ = some (.slice A0_1 l0_1.length c0_1) := (blk_cell BK389.out 1).trans rfl
                  have hcz26_2 : wr.cell? ⟨gb389, 2, none⟩ = some (.slice A0_2 l0_2.length c0_2) := (blk_cell BK389.out 2).trans rfl
                  have hfz26_0 := blk_frozen BK389.out 0
                  have hfz26_1 := blk_frozen BK389.out 1
                  have hfz26_2 := blk_frozen BK389.out 2
                  have p393 : 0 ≤ (x4_2 : Int) := of_decide_eq_true (by first | (with_reducible assumption) | assumption)
                  have q393 : x4_2 < (l0_0.length : Int) := of_decide_eq_true (by first | (with_reducible assumption) | assumption)
                  obtain ⟨ad393, e393, hx393_0⟩ := Kd.at_int HR0_0.out x4_2 p393 q393
                  cases e393
                  replace hx393_0 := (HB.out.cell (World.block_lt_of_cell? w _ hx393_0)).trans hx393_0
                  replace p393 := eq_true p393
                  replace q393 := eq_true q393
                  go_wp2_with (first | ((with_reducible refine gate_callee (f := 34) rfl ?_); refine goesL_ (some 45) rfl rfl Tryd.func34 (by kernel_rfl) rfl #[.int .i64 (rd l0_0 x4_2), .int .i64 0, .int .i64 50] rfl (by (try simp only [List.map_toArray, List.map_cons, List.map_nil]); first | done | rfl | (simp only [List.length_drop, List.length_take]; rfl)) ?_; (with_reducible refine (wishbookref00_Tween.calls (rd l0_0 x4_2) 0 50 t394 _ A25.out).mono ?_); rintro e w' ⟨rfl, ⟨nd, rfl⟩⟩; refine ⟨_, rfl, ?_⟩))
                  go_roundg k2
                  case measure => have := HJ1.out; have := HK2.out; omega
                  case rel => exact ⟨(t394), (wrap64 (x4_2 + 1)), (by first | rfl | (simp; done) | (simp [*]; done)), (by first | rfl | (simp; done) | (simp [*]; done)), H', ⟨by have := HJ1.out; have := HK2.out; omega⟩, ⟨by (with_reducible repeat (first | refine blk_drewN ?_ _ | refine blk_drew ?_ | refine blk_alloc ?_ _)); exact BK389.out⟩, ⟨by repeat (first | (with_reducible first | exact HB.out | apply below_alloc | apply pw_below_drewN | apply below_drew1 | refine below_set ?_ GE389.out) | exact HB.out)⟩⟩
                · rw [if_neg c24] at H
                  exact absurd H (by simp)
              · rw [if_neg c23] at H
                have c23b0 : decide (x4_2 < (l0_0.length : Int)) = false := decide_eq_false c23
                clear c23
                (first | rw [c23b0] | (simp only [i64_w, i32_w]; rw [c23b0]) | skip)
                have H' := Aside0.mk H
                clear H
                have hcz27_0 : wr.cell? ⟨gb389, 0, none⟩ = some (.slice A0_0 l0_0.length c0_0) := (blk_cell BK389.out 0).trans rfl
                have hcz27_1 : wr.cell? ⟨gb389, 1, none⟩ = some (.slice A0_1 l0_1.length c0_1) := (blk_cell BK389.out 1).trans rfl
                have hcz27_2 : wr.cell? ⟨gb389, 2, none⟩ = some (.slice A0_2 l0_2.length c0_2) := (blk_cell BK389.out 2).trans rfl
                have hfz27_0 := blk_frozen BK389.out 0
                have hfz27_1 := blk_frozen BK389.out 1
                have hfz27_2 := blk_frozen BK389.out 2
                go_wp2
                go_meet
                case rel => exact ⟨_, (true), (by first | rfl | (simp; done) | (simp [*]; done)), H', ⟨by have := HJ1.out; have := HK2.out; first | omega | exact Nat.le_refl _⟩, ⟨by (with_reducible repeat (first | refine blk_drewN ?_ _ | refine blk_drew ?_ | refine blk_alloc ?_ _)); exact BK389.out⟩, ⟨by repeat (first | (with_reducible first | exact HB.out | apply below_alloc | apply pw_below_drewN | apply below_drew1 | refine below_set ?_ GE389.out) | exact HB.out)⟩⟩
            · replace c22 := Bool.eq_false_iff.mpr c22
              subst c22
              have H1 : (wishbooklaw10_sound.j2 k2 false l0_0 l0_1 l0_2) = some r := by rw [if_neg (show ¬ (false = true) by decide)] at H; exact H
              clear H
              have H := H1
              clear H1
              have H' := Aside0.mk H
              clear H
              go_wp2
              go_meet
              case rel => exact ⟨_, (false), (by first | rfl | (simp; done) | (simp [*]; done)), H', ⟨by have := HJ1.out; have := HK2.out; first | omega | exact Nat.le_refl _⟩, ⟨by (with_reducible repeat (first | refine blk_drewN ?_ _ | refine blk_drew ?_ | refine blk_alloc ?_ _)); exact BK389.out⟩, ⟨by repeat (first | (with_reducible first | exact HB.out | apply below_alloc | apply pw_below_drewN | apply below_drew1 | refine below_set ?_ GE389.out) | exact HB.out)⟩⟩
      case rest =>
        clear HC21
        try clear c2
        try clear p2
        try clear c3
        try clear p3
        try clear q3
        try clear hx3
        try clear c4
        try clear c5
        try clear c5b0
        try clear c5b1
        try clear p6
        try clear c7
        try clear c9
        try clear c22
        try clear c23
        try clear c23b0
        try clear c24
        try clear c24b0
        try clear hcz10_0
        try clear hcz10_1
        try clear hcz10_2
        try clear hcz12_0
        try clear hcz12_1
        try clear hcz12_2
        try clear hcz13_0
        try clear hcz13_1
        try clear hcz13_2
        try clear hcz15_0
        try clear hcz15_1
        try clear hcz15_2
        try clear hcz16_0
        try clear hcz16_1
        try clear hcz16_2
        try clear hcz18_0
        try clear hcz18_1
        try clear hcz18_2
        try clear hcz19_0
        try clear hcz19_1
        try clear hcz19_2
        try clear hcz26_0
        try clear hcz26_1
        try clear hcz26_2
        try clear hcz27_0
        try clear hcz27_1
        try clear hcz27_2
        try clear hfz10_0
        try clear hfz10_1
        try clear hfz10_2
        try clear hfz12_0
        try clear hfz12_1
        try clear hfz12_2
        try clear hfz13_0
        try clear hfz13_1
        try clear hfz13_2
        try clear hfz15_0
        try clear hfz15_1
        try clear hfz15_2
        try clear hfz16_0
        try clear hfz16_1
        try clear hfz16_2
        try clear hfz18_0
        try clear hfz18_1
        try clear hfz18_2
        try clear hfz19_0
        try clear hfz19_1
        try clear hfz19_2
        try clear hfz26_0
        try clear hfz26_1
        try clear hfz26_2
        try clear hfz27_0
        try clear hfz27_1
        try clear hfz27_2
        try clear hx393_0
        try clear p2
        try clear p393
        try clear q393
        obtain ⟨kq, x3_20, rfl, HA, HJ20, BK389, HB⟩ := hcut
        cases kq with
        | zero => exact absurd HA.out (by simp [wishbooklaw10_sound.j2])
        | succ kj20 =>
          have H := HA.out
          clear HA
          simp only [wishbooklaw10_sound.j2] at H
          have H' := Aside0.mk H
          clear H
          go_wp2
          go_loopg [3, 5] kj20 (fun kq v3 v5 w' => ∃ (x3_3 : Bool) (x5_3 : Int), v3 = .bool x3_3 ∧ v5 = .int .i64 x5_3 ∧ Aside0 (wishbooklaw10_sound.l1 kq x3_3 x5_3 l0_0 l0_1 l0_2 = some r) ∧ Aside0 (kq ≤ kj20) ∧ Aside0 (w'.heap[gb389]? = some (.cells #[(.slice A0_0 l0_0.length c0_0), (.slice A0_1 l0_1.length c0_1), (.slice A0_2 l0_2.length c0_2)] 26 (0, 0))) ∧ Aside0 (Below w.heap.size w w'))
          case atStart => exact ⟨(x3_20), (0), (by first | rfl | (simp; done) | (simp [*]; done)), (by first | rfl | (simp; done) | (simp [*]; done)), H', ⟨Nat.le_refl _⟩, ⟨by (with_reducible repeat (first | refine blk_drewN ?_ _ | refine blk_drew ?_ | refine blk_alloc ?_ _)); exact BK389.out⟩, ⟨by repeat (first | (with_reducible first | exact HB.out | apply below_alloc | apply pw_below_drewN | apply below_drew1 | refine below_set ?_ GE389.out) | exact HB.out)⟩⟩
          case round =>
            clear H'
            try clear c2
            try clear p2
            try clear c3
            try clear p3
            try clear q3
            try clear hx3
            try clear c4
            try clear c5
            try clear c5b0
            try clear c5b1
            try clear p6
            try clear c7
            try clear c9
            try clear c22
            try clear c23
            try clear c23b0
            try clear c24
            try clear c24b0
            try clear hcz10_0
            try clear hcz10_1
            try clear hcz10_2
            try clear hcz12_0
            try clear hcz12_1
            try clear hcz12_2
            try clear hcz13_0
            try clear hcz13_1
            try clear hcz13_2
            try clear hcz15_0
            try clear hcz15_1
            try clear hcz15_2
            try clear hcz16_0
            try clear hcz16_1
            try clear hcz16_2
            try clear hcz18_0
            try clear hcz18_1
            try clear hcz18_2
            try clear hcz19_0
            try clear hcz19_1
            try clear hcz19_2
            try clear hcz26_0
            try clear hcz26_1
            try clear hcz26_2
            try clear hcz27_0
            try clear hcz27_1
            try clear hcz27_2
            try clear hfz10_0
            try clear hfz10_1
            try clear hfz10_2
            try clear hfz12_0
            try clear hfz12_1
            try clear hfz12_2
            try clear hfz13_0
            try clear hfz13_1
            try clear hfz13_2
            try clear hfz15_0
            try clear hfz15_1
            try clear hfz15_2
            try clear hfz16_0
            try clear hfz16_1
            try clear hfz16_2
            try clear hfz18_0
            try clear hfz18_1
            try clear hfz18_2
            try clear hfz19_0
            try clear hfz19_1
            try clear hfz19_2
            try clear hfz26_0
            try clear hfz26_1
            try clear hfz26_2
            try clear hfz27_0
            try clear hfz27_1
            try clear hfz27_2
            try clear hx393_0
            try clear p2
            try clear p3
            try clear p393
            try clear p6
            try clear q3
            try clear q393
            obtain ⟨x3_3, x5_3, rfl, rfl, HA, HK3, BK389, HB⟩ := hrel
            cases gk with
            | zero => exact absurd HA.out (by simp [wishbooklaw10_sound.l1])
            | succ k3 =>
              have H := HA.out
              clear HA
              simp only [wishbooklaw10_sound.l1] at H
              have HC28 := Aside0.mk H
              clear H
              go_upto_region 7 with (fail)
              go_cut [53] (fun v53 wc => ∃ (kq : Nat) (x53_27 : Bool), v53 = .bool x53_27 ∧ Aside0 (wishbooklaw10_sound.j4 kq x3_3 x5_3 x53_27 l0_0 l0_1 l0_2 = some r) ∧ Aside0 (kq ≤ k3) ∧ Aside0 (wc.heap[gb389]? = some (.cells #[(.slice A0_0 l0_0.length c0_0), (.slice A0_1 l0_1.length c0_1), (.slice A0_2 l0_2.length c0_2)] 26 (0, 0))) ∧ Aside0 (Below w.heap.size w wc))
              case first =>
                have H := HC28.out
                clear HC28
                by_cases c29 : x3_3 = true
                · subst c29
                  have H1 : (wishbooklaw10_sound.j4 k3 true x5_3 (decide (x5_3 < (l0_1.length : Int))) l0_0 l0_1 l0_2) = some r := by rw [if_pos rfl] at H; exact H
                  clear H
                  have H := H1
                  clear H1
                  have H' := Aside0.mk H
                  clear H
                  have hcz30_0 : wr.cell? ⟨gb389, 0, none⟩ = some (.slice A0_0 l0_0.length c0_0) := (blk_cell BK389.out 0).trans rfl
                  have hcz30_1 : wr.cell? ⟨gb389, 1, none⟩ = some (.slice A0_1 l0_1.length c0_1) := (blk_cell BK389.out 1).trans rfl
                  have hcz30_2 : wr.cell? ⟨gb389, 2, none⟩ = some (.slice A0_2 l0_2.length c0_2) := (blk_cell BK389.out 2).trans rfl
                  have hfz30_0 := blk_frozen BK389.out 0
                  have hfz30_1 := blk_frozen BK389.out 1
                  have hfz30_2 := blk_frozen BK389.out 2
                  go_wp2
                  go_meet
                  case rel => exact ⟨_, (decide (x5_3 < (l0_1.length : Int))), (by first | rfl | (simp; done) | (simp [*]; done)), H', ⟨by have := HJ1.out; have := HJ20.out; have := HK3.out; first | omega | exact Nat.le_refl _⟩, ⟨by (with_reducible repeat (first | refine blk_drewN ?_ _ | refine blk_drew ?_ | refine blk_alloc ?_ _)); exact BK389.out⟩, ⟨by repeat (first | (with_reducible first | exact HB.out | apply below_alloc | apply pw_below_drewN | apply below_drew1 | refine below_set ?_ GE389.out) | exact HB.out)⟩⟩
                · replace c29 := Bool.eq_false_iff.mpr c29
                  subst c29
                  have H1 : (wishbooklaw10_sound.j4 k3 false x5_3 false l0_0 l0_1 l0_2) = some r := by rw [if_neg (show ¬ (false = true) by decide)] at H; exact H
                  clear H
                  have H := H1
                  clear H1
                  have H' := Aside0.mk H
                  clear H
                  go_wp2
                  go_meet
                  case rel => exact ⟨_, (false), (by first | rfl | (simp; done) | (simp [*]; done)), H', ⟨by have := HJ1.out; have := HJ20.out; have := HK3.out; first | omega | exact Nat.le_refl _⟩, ⟨by (with_reducible repeat (first | refine blk_drewN ?_ _ | refine blk_drew ?_ | refine blk_alloc ?_ _)); exact BK389.out⟩, ⟨by repeat (first | (with_reducible first | exact HB.out | apply below_alloc | apply pw_below_drewN | apply below_drew1 | refine below_set ?_ GE389.out) | exact HB.out)⟩⟩
              case rest =>
                clear HC28
                try clear c2
                try clear p2
                try clear c3
                try clear p3
                try clear q3
                try clear hx3
                try clear c4
                try clear c5
                try clear c5b0
                try clear c5b1
                try clear p6
                try clear c7
                try clear c9
                try clear c22
                try clear c23
                try clear c23b0
                try clear c24
                try clear c24b0
                try clear c29
                try clear c30
                try clear hcz10_0
                try clear hcz10_1
                try clear hcz10_2
                try clear hcz12_0
                try clear hcz12_1
                try clear hcz12_2
                try clear hcz13_0
                try clear hcz13_1
                try clear hcz13_2
                try clear hcz15_0
                try clear hcz15_1
                try clear hcz15_2
                try clear hcz16_0
                try clear hcz16_1
                try clear hcz16_2
                try clear hcz18_0
                try clear hcz18_1
                try clear hcz18_2
                try clear hcz19_0
                try clear hcz19_1
                try clear hcz19_2
                try clear hcz26_0
                try clear hcz26_1
                try clear hcz26_2
                try clear hcz27_0
                try clear hcz27_1
                try clear hcz27_2
                try clear hcz30_0
                try clear hcz30_1
                try clear hcz30_2
                try clear hfz10_0
                try clear hfz10_1
                try clear hfz10_2
                try clear hfz12_0
                try clear hfz12_1
                try clear hfz12_2
                try clear hfz13_0
                try clear hfz13_1
                try clear hfz13_2
                try clear hfz15_0
                try clear hfz15_1
                try clear hfz15_2
                try clear hfz16_0
                try clear hfz16_1
                try clear hfz16_2
                try clear hfz18_0
                try clear hfz18_1
                try clear hfz18_2
                try clear hfz19_0
                try clear hfz19_1
                try clear hfz19_2
                try clear hfz26_0
                try clear hfz26_1
                try clear hfz26_2
                try clear hfz27_0
                try clear hfz27_1
                try clear hfz27_2
                try clear hfz30_0
                try clear hfz30_1
                try clear hfz30_2
                try clear hx393_0
                try clear p2
                try clear p3
                try clear p393
                try clear p6
                try clear q3
                try clear q393
                obtain ⟨kq, x53_27, rfl, HA, HJ27, BK389, HB⟩ := hcut
                cases kq with
                | zero => exact absurd HA.out (by simp [wishbooklaw10_sound.j4])
                | succ kj27 =>
                  have H := HA.out
                  clear HA
                  simp only [wishbooklaw10_sound.j4] at H
                  by_cases c31 : x53_27 = true
                  · subst c31
                    have H1 : (if 0 ≤ x5_3 then (if x5_3 < (l0_1.length : Int) then ((wishbookref00_Tween.f ((rd_T47 l0_1 x5_3).f0) 0 9).bind fun t397 => (if t397 = true then ((wishbookref00_Tween.f ((rd_T47 l0_1 x5_3).f1) 0 (wrap64 ((l0_0.length : Int) - 1))).bind fun t398 => (if t398 = true then ((wishbookref00_Tween.f ((rd_T47 l0_1 x5_3).f2) 1 20).bind fun t399 => (if t399 = true then ((wishbookref00_Tween.f ((rd_T47 l0_1 x5_3).f3) 0 100).bind fun t400 => (if t400 = true then ((wishbookref00_Tween.f ((rd_T47 l0_1 x5_3).f4) (-1) (wrap64 ((l0_0.length : Int) - 1))).bind fun t401 => (wishbooklaw10_sound.l1 kj27 t401 (wrap64 (x5_3 + 1)) l0_0 l0_1 l0_2)) else (wishbooklaw10_sound.l1 kj27 false (wrap64 (x5_3 + 1)) l0_0 l0_1 l0_2))) else (wishbooklaw10_sound.l1 kj27 false (wrap64 (x5_3 + 1)) l0_0 l0_1 l0_2))) else (wishbooklaw10_sound.l1 kj27 false (wrap64 (x5_3 + 1)) l0_0 l0_1 l0_2))) else (wishbooklaw10_sound.l1 kj27 false (wrap64 (x5_3 + 1)) l0_0 l0_1 l0_2))) else (none)) else (none)) = some r := by rw [if_pos rfl] at H; exact H
                    clear H
                    have H := H1
                    clear H1
                    by_cases c32 : 0 ≤ x5_3
                    · rw [if_pos c32] at H
                      have c32b0 : decide (0 ≤ x5_3) = true := decide_eq_true c32
                      clear c32
                      by_cases c33 : x5_3 < (l0_1.length : Int)
                      · rw [if_pos c33] at H
                        have c33b0 : decide (x5_3 < (l0_1.length : Int)) = true := decide_eq_true c33
                        clear c33
                        replace H := Option.bind_eq_some_iff.mp H
                        obtain ⟨t397, A340, H⟩ := H
                        replace H : (if t397 = true then ((wishbookref00_Tween.f ((rd_T47 l0_1 x5_3).f1) 0 (wrap64 ((l0_0.length : Int) - 1))).bind fun t398 => (if t398 = true then ((wishbookref00_Tween.f ((rd_T47 l0_1 x5_3).f2) 1 20).bind fun t399 => (if t399 = true then ((wishbookref00_Tween.f ((rd_T47 l0_1 x5_3).f3) 0 100).bind fun t400 => (if t400 = true then ((wishbookref00_Tween.f ((rd_T47 l0_1 x5_3).f4) (-1) (wrap64 ((l0_0.length : Int) - 1))).bind fun t401 => (wishbooklaw10_sound.l1 kj27 t401 (wrap64 (x5_3 + 1)) l0_0 l0_1 l0_2)) else (wishbooklaw10_sound.l1 kj27 false (wrap64 (x5_3 + 1)) l0_0 l0_1 l0_2))) else (wishbooklaw10_sound.l1 kj27 false (wrap64 (x5_3 + 1)) l0_0 l0_1 l0_2))) else (wishbooklaw10_sound.l1 kj27 false (wrap64 (x5_3 + 1)) l0_0 l0_1 l0_2))) else (wishbooklaw10_sound.l1 kj27 false (wrap64 (x5_3 + 1)) l0_0 l0_1 l0_2)) = some r := H
                        have A34 := Aside0.mk A340
                        clear A340
                        by_cases c35 : t397 = true
                        · subst c35
                          have H1 : ((wishbookref00_Tween.f ((rd_T47 l0_1 x5_3).f1) 0 (wrap64 ((l0_0.length : Int) - 1))).bind fun t398 => (if t398 = true then ((wishbookref00_Tween.f ((rd_T47 l0_1 x5_3).f2) 1 20).bind fun t399 => (if t399 = true then ((wishbookref00_Tween.f ((rd_T47 l0_1 x5_3).f3) 0 100).bind fun t400 => (if t400 = true then ((wishbookref00_Tween.f ((rd_T47 l0_1 x5_3).f4) (-1) (wrap64 ((l0_0.length : Int) - 1))).bind fun t401 => (wishbooklaw10_sound.l1 kj27 t401 (wrap64 (x5_3 + 1)) l0_0 l0_1 l0_2)) else (wishbooklaw10_sound.l1 kj27 false (wrap64 (x5_3 + 1)) l0_0 l0_1 l0_2))) else (wishbooklaw10_sound.l1 kj27 false (wrap64 (x5_3 + 1)) l0_0 l0_1 l0_2))) else (wishbooklaw10_sound.l1 kj27 false (wrap64 (x5_3 + 1)) l0_0 l0_1 l0_2))) = some r := by rw [if_pos rfl] at H; exact H
                          clear H
                          have H := H1
                          clear H1
                          replace H := Option.bind_eq_some_iff.mp H
                          obtain ⟨t398, A360, H⟩ := H
                          replace H : (if t398 = true then ((wishbookref00_Tween.f ((rd_T47 l0_1 x5_3).f2) 1 20).bind fun t399 => (if t399 = true then ((wishbookref00_Tween.f ((rd_T47 l0_1 x5_3).f3) 0 100).bind fun t400 => (if t400 = true then ((wishbookref00_Tween.f ((rd_T47 l0_1 x5_3).f4) (-1) (wrap64 ((l0_0.length : Int) - 1))).bind fun t401 => (wishbooklaw10_sound.l1 kj27 t401 (wrap64 (x5_3 + 1)) l0_0 l0_1 l0_2)) else (wishbooklaw10_sound.l1 kj27 false (wrap64 (x5_3 + 1)) l0_0 l0_1 l0_2))) else (wishbooklaw10_sound.l1 kj27 false (wrap64 (x5_3 + 1)) l0_0 l0_1 l0_2))) else (wishbooklaw10_sound.l1 kj27 false (wrap64 (x5_3 + 1)) l0_0 l0_1 l0_2)) = some r := H
                          have A36 := Aside0.mk A360
                          clear A360
                          by_cases c37 : t398 = true
                          · subst c37
                            have H1 : ((wishbookref00_Tween.f ((rd_T47 l0_1 x5_3).f2) 1 20).bind fun t399 => (if t399 = true then ((wishbookref00_Tween.f ((rd_T47 l0_1 x5_3).f3) 0 100).bind fun t400 => (if t400 = true then ((wishbookref00_Tween.f ((rd_T47 l0_1 x5_3).f4) (-1) (wrap64 ((l0_0.length : Int) - 1))).bind fun t401 => (wishbooklaw10_sound.l1 kj27 t401 (wrap64 (x5_3 + 1)) l0_0 l0_1 l0_2)) else (wishbooklaw10_sound.l1 kj27 false (wrap64 (x5_3 + 1)) l0_0 l0_1 l0_2))) else (wishbooklaw10_sound.l1 kj27 false (wrap64 (x5_3 + 1)) l0_0 l0_1 l0_2))) = some r := by rw [if_pos rfl] at H; exact H
                            clear H
                            have H := H1
                            clear H1
                            replace H := Option.bind_eq_some_iff.mp H
                            obtain ⟨t399, A380, H⟩ := H
                            replace H : (if t399 = true then ((wishbookref00_Tween.f ((rd_T47 l0_1 x5_3).f3) 0 100).bind fun t400 => (if t400 = true then ((wishbookref00_Tween.f ((rd_T47 l0_1 x5_3).f4) (-1) (wrap64 ((l0_0.length : Int) - 1))).bind fun t401 => (wishbooklaw10_sound.l1 kj27 t401 (wrap64 (x5_3 + 1)) l0_0 l0_1 l0_2)) else (wishbooklaw10_sound.l1 kj27 false (wrap64 (x5_3 + 1)) l0_0 l0_1 l0_2))) else (wishbooklaw10_sound.l1 kj27 false (wrap64 (x5_3 + 1)) l0_0 l0_1 l0_2)) = some r := H
                            have A38 := Aside0.mk A380
                            clear A380
                            by_cases c39 : t399 = true
                            · subst c39
                              have H1 : ((wishbookref00_Tween.f ((rd_T47 l0_1 x5_3).f3) 0 100).bind fun t400 => (if t400 = true then ((wishbookref00_Tween.f ((rd_T47 l0_1 x5_3).f4) (-1) (wrap64 ((l0_0.length : Int) - 1))).bind fun t401 => (wishbooklaw10_sound.l1 kj27 t401 (wrap64 (x5_3 + 1)) l0_0 l0_1 l0_2)) else (wishbooklaw10_sound.l1 kj27 false (wrap64 (x5_3 + 1)) l0_0 l0_1 l0_2))) = some r := by rw [if_pos rfl] at H; exact H
                              clear H
                              have H := H1
                              clear H1
                              replace H := Option.bind_eq_some_iff.mp H
                              obtain ⟨t400, A400, H⟩ := H
                              replace H : (if t400 = true then ((wishbookref00_Tween.f ((rd_T47 l0_1 x5_3).f4) (-1) (wrap64 ((l0_0.length : Int) - 1))).bind fun t401 => (wishbooklaw10_sound.l1 kj27 t401 (wrap64 (x5_3 + 1)) l0_0 l0_1 l0_2)) else (wishbooklaw10_sound.l1 kj27 false (wrap64 (x5_3 + 1)) l0_0 l0_1 l0_2)) = some r := H
                              have A40 := Aside0.mk A400
                              clear A400
                              by_cases c41 : t400 = true
                              · subst c41
                                have H1 : ((wishbookref00_Tween.f ((rd_T47 l0_1 x5_3).f4) (-1) (wrap64 ((l0_0.length : Int) - 1))).bind fun t401 => (wishbooklaw10_sound.l1 kj27 t401 (wrap64 (x5_3 + 1)) l0_0 l0_1 l0_2)) = some r := by rw [if_pos rfl] at H; exact H
                                clear H
                                have H := H1
                                clear H1
                                replace H := Option.bind_eq_some_iff.mp H
                                obtain ⟨t401, A420, H⟩ := H
                                replace H : (wishbooklaw10_sound.l1 kj27 t401 (wrap64 (x5_3 + 1)) l0_0 l0_1 l0_2) = some r := H
                                have A42 := Aside0.mk A420
                                clear A420
                                have H' := Aside0.mk H
                                clear H
                                have hcz43_0 : wc.cell? ⟨gb389, 0, none⟩ = some (.slice A0_0 l0_0.length c0_0) := (blk_cell BK389.out 0).trans rfl
                                have hcz43_1 : wc.cell? ⟨gb389, 1, none⟩ = some (.slice A0_1 l0_1.length c0_1) := (blk_cell BK389.out 1).trans rfl
                                have hcz43_2 : wc.cell? ⟨gb389, 2, none⟩ = some (.slice A0_2 l0_2.length c0_2) := (blk_cell BK389.out 2).trans rfl
                                have hfz43_0 := blk_frozen BK389.out 0
                                have hfz43_1 := blk_frozen BK389.out 1
                                have hfz43_2 := blk_frozen BK389.out 2
                                have p395 : 0 ≤ (x5_3 : Int) := of_decide_eq_true (by first | (with_reducible assumption) | assumption)
                                have q395 : x5_3 < (l0_1.length : Int) := of_decide_eq_true (by first | (with_reducible assumption) | assumption)
                                obtain ⟨ad395, e395, hx395_0, hx395_1, hx395_2, hx395_3, hx395_4⟩ := at_T47 HR0_1.out x5_3 p395 q395
                                cases e395
                                replace hx395_0 := (HB.out.cell (World.block_lt_of_cell? w _ hx395_0)).trans hx395_0
                                replace hx395_1 := (HB.out.cell (World.block_lt_of_cell? w _ hx395_1)).trans hx395_1
                                replace hx395_2 := (HB.out.cell (World.block_lt_of_cell? w _ hx395_2)).trans hx395_2
                                replace hx395_3 := (HB.out.cell (World.block_lt_of_cell? w _ hx395_3)).trans hx395_3
                                replace hx395_4 := (HB.out.cell (World.block_lt_of_cell? w _ hx395_4)).trans hx395_4
                                replace p395 := eq_true p395
                                replace q395 := eq_true q395
                                go_wp2_with (first | ((with_reducible refine gate_dst (N := 6) rfl ?_); (try (refine gate_guard (by rfl) ?_; dsimp only)); refine box_event ?hg (N := 6) ?hd (cs := #[.int .i64 0, .int .i64 0, .int .i64 0, .int .i64 0, .int .i64 0]) (t := 47) ?hr ?_; (case hd => rfl); (case hg => rfl); (case hr => first | (go_simp; done) | (go_simp; rfl)); intro gb396 hg w44 hbox hb; have n0_ := Aside0.mk (blk_below (g := gb389) (o := .cells #[.slice A0_0 l0_0.length c0_0, .slice (some ad395) l0_1.length c0_1, .slice A0_2 l0_2.length c0_2] 26 (0, 0)) (by (with_reducible repeat (first | refine blk_drewN ?_ _ | refine blk_drew ?_ | refine blk_alloc ?_ _)); exact BK389.out) hb); have n1_ := Aside0.mk (below_step (by repeat (first | (with_reducible first | exact HB.out | apply below_alloc | apply pw_below_drewN | apply below_drew1 | refine below_set ?_ GE389.out) | exact HB.out)) hb); have n2_ := Aside0.mk (hbox); have n3_ := Aside0.mk ((by rw [hg]; exact (below_size (by repeat (first | (with_reducible first | exact HB.out | apply below_alloc | apply pw_below_drewN | apply below_drew1 | refine below_set ?_ GE389.out) | exact HB.out))) : w.heap.size ≤ gb396)); have n4_ := Aside0.mk ((by rw [hg]; exact (below_size (by repeat (first | (with_reducible first | exact HB.out | apply below_alloc | apply pw_below_drewN | apply below_drew1 | refine below_set ?_ GE389.out) | exact HB.out))) : w.heap.size ≤ gb396)); have n5_ := Aside0.mk ((by rw [hg]; exact Nat.ne_of_lt (blk_lt (g := gb389) (o := .cells #[.slice A0_0 l0_0.length c0_0, .slice (some ad395) l0_1.length c0_1, .slice A0_2 l0_2.length c0_2] 26 (0, 0)) (by (with_reducible repeat (first | refine blk_drewN ?_ _ | refine blk_drew ?_ | refine blk_alloc ?_ _)); exact BK389.out)) : gb389 ≠ gb396)); have n6_ := Aside0.mk ((by rw [hg]; exact Nat.ne_of_gt (blk_lt (g := gb389) (o := .cells #[.slice A0_0 l0_0.length c0_0, .slice (some ad395) l0_1.length c0_1, .slice A0_2 l0_2.length c0_2] 26 (0, 0)) (by (with_reducible repeat (first | refine blk_drewN ?_ _ | refine blk_drew ?_ | refine blk_alloc ?_ _)); exact BK389.out)) : gb396 ≠ gb389)); clear BK389; clear HB; have BK389 := n0_; have HB := n1_; have BK396 := n2_; have GW396 := n3_; have GE396 := n4_; have NB389_396 := n5_; have NB396_389 := n6_; clear n0_ n1_ n2_ n3_ n4_ n5_ n6_; clear hb hbox hg; have hnb45 := NB396_389.out; have hnc45 := NB389_396.out; have hcz46_0 : w44.cell? ⟨gb396, 0, none⟩ = some (.int .i64 0) := (blk_cell BK396.out 0).trans rfl; have hcz46_1 : w44.cell? ⟨gb396, 1, none⟩ = some (.int .i64 0) := (blk_cell BK396.out 1).trans rfl; have hcz46_2 : w44.cell? ⟨gb396, 2, none⟩ = some (.int .i64 0) := (blk_cell BK396.out 2).trans rfl; have hcz46_3 : w44.cell? ⟨gb396, 3, none⟩ = some (.int .i64 0) := (blk_cell BK396.out 3).trans rfl; have hcz46_4 : w44.cell? ⟨gb396, 4, none⟩ = some (.int .i64 0) := (blk_cell BK396.out 4).trans rfl; have hfz46_0 := blk_frozen BK396.out 0; have hfz46_1 := blk_frozen BK396.out 1; have hfz46_2 := blk_frozen BK396.out 2; have hfz46_3 := blk_frozen BK396.out 3; have hfz46_4 := blk_frozen BK396.out 4) | ((with_reducible refine gate_callee (f := 34) rfl ?_); refine goesL_ (some 63) rfl rfl Tryd.func34 (by kernel_rfl) rfl #[.int .i64 ((rd_T47 l0_1 x5_3).f0), .int .i64 0, .int .i64 9] rfl (by (try simp only [List.map_toArray, List.map_cons, List.map_nil]); first | done | rfl | (simp only [List.length_drop, List.length_take]; rfl)) ?_; (with_reducible refine (wishbookref00_Tween.calls ((rd_T47 l0_1 x5_3).f0) 0 9 true _ A34.out).mono ?_); rintro e w' ⟨rfl, ⟨nd, rfl⟩⟩; refine ⟨_, rfl, ?_⟩; have hcz47_0 : w44.cell? ⟨gb389, 0, none⟩ = some (.slice A0_0 l0_0.length c0_0) := (blk_cell BK389.out 0).trans rfl; have hcz47_1 : w44.cell? ⟨gb389, 1, none⟩ = some (.slice (some ad395) l0_1.length c0_1) := (blk_cell BK389.out 1).trans rfl; have hcz47_2 : w44.cell? ⟨gb389, 2, none⟩ = some (.slice A0_2 l0_2.length c0_2) := (blk_cell BK389.out 2).trans rfl; have hfz47_0 := blk_frozen BK389.out 0; have hfz47_1 := blk_frozen BK389.out 1; have hfz47_2 := blk_frozen BK389.out 2) | (go_at_call 34; (with_reducible refine (wishbookref00_Tween.calls ((rd_T47 l0_1 x5_3).f1) 0 (wrap64 ((l0_0.length : Int) - 1)) true _ A36.out).mono ?_); rintro e w' ⟨rfl, ⟨nd, rfl⟩⟩) | (go_at_call 34; (with_reducible refine (wishbookref00_Tween.calls ((rd_T47 l0_1 x5_3).f2) 1 20 true _ A38.out).mono ?_); rintro e w' ⟨rfl, ⟨nd, rfl⟩⟩) | (go_at_call 34; (with_reducible refine (wishbookref00_Tween.calls ((rd_T47 l0_1 x5_3).f3) 0 100 true _ A40.out).mono ?_); rintro e w' ⟨rfl, ⟨nd, rfl⟩⟩) | (go_at_call 34; (with_reducible refine (wishbookref00_Tween.calls ((rd_T47 l0_1 x5_3).f4) (-1) (wrap64 ((l0_0.length : Int) - 1)) t401 _ A42.out).mono ?_); rintro e w' ⟨rfl, ⟨nd, rfl⟩⟩))
                                go_roundg kj27
                                case measure => have := HJ1.out; have := HJ20.out; have := HK3.out; have := HJ27.out; omega
                                case rel => exact ⟨(t401), (wrap64 (x5_3 + 1)), (by first | rfl | (simp; done) | (simp [*]; done)), (by first | rfl | (simp; done) | (simp [*]; done)), H', ⟨by have := HJ1.out; have := HJ20.out; have := HK3.out; have := HJ27.out; omega⟩, ⟨by (with_reducible repeat (first | refine blk_drewN ?_ _ | refine blk_drew ?_ | refine blk_alloc ?_ _)); refine blk_far ?_ NB389_396.out _; (with_reducible repeat (first | refine blk_drewN ?_ _ | refine blk_drew ?_ | refine blk_alloc ?_ _)); refine blk_far ?_ NB389_396.out _; (with_reducible repeat (first | refine blk_drewN ?_ _ | refine blk_drew ?_ | refine blk_alloc ?_ _)); refine blk_far ?_ NB389_396.out _; (with_reducible repeat (first | refine blk_drewN ?_ _ | refine blk_drew ?_ | refine blk_alloc ?_ _)); refine blk_far ?_ NB389_396.out _; (with_reducible repeat (first | refine blk_drewN ?_ _ | refine blk_drew ?_ | refine blk_alloc ?_ _)); refine blk_far ?_ NB389_396.out _; (with_reducible repeat (first | refine blk_drewN ?_ _ | refine blk_drew ?_ | refine blk_alloc ?_ _)); exact BK389.out⟩, ⟨by repeat (first | (with_reducible first | exact HB.out | apply below_alloc | apply pw_below_drewN | apply below_drew1 | refine below_set ?_ GE389.out | refine below_set ?_ GE396.out) | exact HB.out)⟩⟩
                              · replace c41 := Bool.eq_false_iff.mpr c41
                                subst c41
                                have H1 : (wishbooklaw10_sound.l1 kj27 false (wrap64 (x5_3 + 1)) l0_0 l0_1 l0_2) = some r := by rw [if_neg (show ¬ (false = true) by decide)] at H; exact H
                                clear H
                                have H := H1
                                clear H1
                                have H' := Aside0.mk H
                                clear H
                                have hcz48_0 : wc.cell? ⟨gb389, 0, none⟩ = some (.slice A0_0 l0_0.length c0_0) := (blk_cell BK389.out 0).trans rfl
                                have hcz48_1 : wc.cell? ⟨gb389, 1, none⟩ = some (.slice A0_1 l0_1.length c0_1) := (blk_cell BK389.out 1).trans rfl
                                have hcz48_2 : wc.cell? ⟨gb389, 2, none⟩ = some (.slice A0_2 l0_2.length c0_2) := (blk_cell BK389.out 2).trans rfl
                                have hfz48_0 := blk_frozen BK389.out 0
                                have hfz48_1 := blk_frozen BK389.out 1
                                have hfz48_2 := blk_frozen BK389.out 2
                                have p395 : 0 ≤ (x5_3 : Int) := of_decide_eq_true (by first | (with_reducible assumption) | assumption)
                                have q395 : x5_3 < (l0_1.length : Int) := of_decide_eq_true (by first | (with_reducible assumption) | assumption)
                                obtain ⟨ad395, e395, hx395_0, hx395_1, hx395_2, hx395_3, hx395_4⟩ := at_T47 HR0_1.out x5_3 p395 q395
                                cases e395
                                replace hx395_0 := (HB.out.cell (World.block_lt_of_cell? w _ hx395_0)).trans hx395_0
                                replace hx395_1 := (HB.out.cell (World.block_lt_of_cell? w _ hx395_1)).trans hx395_1
                                replace hx395_2 := (HB.out.cell (World.block_lt_of_cell? w _ hx395_2)).trans hx395_2
                                replace hx395_3 := (HB.out.cell (World.block_lt_of_cell? w _ hx395_3)).trans hx395_3
                                replace hx395_4 := (HB.out.cell (World.block_lt_of_cell? w _ hx395_4)).trans hx395_4
                                replace p395 := eq_true p395
                                replace q395 := eq_true q395
                                go_wp2_with (first | ((with_reducible refine gate_dst (N := 6) rfl ?_); (try (refine gate_guard (by rfl) ?_; dsimp only)); refine box_event ?hg (N := 6) ?hd (cs := #[.int .i64 0, .int .i64 0, .int .i64 0, .int .i64 0, .int .i64 0]) (t := 47) ?hr ?_; (case hd => rfl); (case hg => rfl); (case hr => first | (go_simp; done) | (go_simp; rfl)); intro gb396 hg w49 hbox hb; have n0_ := Aside0.mk (blk_below (g := gb389) (o := .cells #[.slice A0_0 l0_0.length c0_0, .slice (some ad395) l0_1.length c0_1, .slice A0_2 l0_2.length c0_2] 26 (0, 0)) (by (with_reducible repeat (first | refine blk_drewN ?_ _ | refine blk_drew ?_ | refine blk_alloc ?_ _)); exact BK389.out) hb); have n1_ := Aside0.mk (below_step (by repeat (first | (with_reducible first | exact HB.out | apply below_alloc | apply pw_below_drewN | apply below_drew1 | refine below_set ?_ GE389.out) | exact HB.out)) hb); have n2_ := Aside0.mk (hbox); have n3_ := Aside0.mk ((by rw [hg]; exact (below_size (by repeat (first | (with_reducible first | exact HB.out | apply below_alloc | apply pw_below_drewN | apply below_drew1 | refine below_set ?_ GE389.out) | exact HB.out))) : w.heap.size ≤ gb396)); have n4_ := Aside0.mk ((by rw [hg]; exact (below_size (by repeat (first | (with_reducible first | exact HB.out | apply below_alloc | apply pw_below_drewN | apply below_drew1 | refine below_set ?_ GE389.out) | exact HB.out))) : w.heap.size ≤ gb396)); have n5_ := Aside0.mk ((by rw [hg]; exact Nat.ne_of_lt (blk_lt (g := gb389) (o := .cells #[.slice A0_0 l0_0.length c0_0, .slice (some ad395) l0_1.length c0_1, .slice A0_2 l0_2.length c0_2] 26 (0, 0)) (by (with_reducible repeat (first | refine blk_drewN ?_ _ | refine blk_drew ?_ | refine blk_alloc ?_ _)); exact BK389.out)) : gb389 ≠ gb396)); have n6_ := Aside0.mk ((by rw [hg]; exact Nat.ne_of_gt (blk_lt (g := gb389) (o := .cells #[.slice A0_0 l0_0.length c0_0, .slice (some ad395) l0_1.length c0_1, .slice A0_2 l0_2.length c0_2] 26 (0, 0)) (by (with_reducible repeat (first | refine blk_drewN ?_ _ | refine blk_drew ?_ | refine blk_alloc ?_ _)); exact BK389.out)) : gb396 ≠ gb389)); clear BK389; clear HB; have BK389 := n0_; have HB := n1_; have BK396 := n2_; have GW396 := n3_; have GE396 := n4_; have NB389_396 := n5_; have NB396_389 := n6_; clear n0_ n1_ n2_ n3_ n4_ n5_ n6_; clear hb hbox hg; have hnb50 := NB396_389.out; have hnc50 := NB389_396.out; have hcz51_0 : w49.cell? ⟨gb396, 0, none⟩ = some (.int .i64 0) := (blk_cell BK396.out 0).trans rfl; have hcz51_1 : w49.cell? ⟨gb396, 1, none⟩ = some (.int .i64 0) := (blk_cell BK396.out 1).trans rfl; have hcz51_2 : w49.cell? ⟨gb396, 2, none⟩ = some (.int .i64 0) := (blk_cell BK396.out 2).trans rfl; have hcz51_3 : w49.cell? ⟨gb396, 3, none⟩ = some (.int .i64 0) := (blk_cell BK396.out 3).trans rfl; have hcz51_4 : w49.cell? ⟨gb396, 4, none⟩ = some (.int .i64 0) := (blk_cell BK396.out 4).trans rfl; have hfz51_0 := blk_frozen BK396.out 0; have hfz51_1 := blk_frozen BK396.out 1; have hfz51_2 := blk_frozen BK396.out 2; have hfz51_3 := blk_frozen BK396.out 3; have hfz51_4 := blk_frozen BK396.out 4) | ((with_reducible refine gate_callee (f := 34) rfl ?_); refine goesL_ (some 63) rfl rfl Tryd.func34 (by kernel_rfl) rfl #[.int .i64 ((rd_T47 l0_1 x5_3).f0), .int .i64 0, .int .i64 9] rfl (by (try simp only [List.map_toArray, List.map_cons, List.map_nil]); first | done | rfl | (simp only [List.length_drop, List.length_take]; rfl)) ?_; (with_reducible refine (wishbookref00_Tween.calls ((rd_T47 l0_1 x5_3).f0) 0 9 true _ A34.out).mono ?_); rintro e w' ⟨rfl, ⟨nd, rfl⟩⟩; refine ⟨_, rfl, ?_⟩; have hcz52_0 : w49.cell? ⟨gb389, 0, none⟩ = some (.slice A0_0 l0_0.length c0_0) := (blk_cell BK389.out 0).trans rfl; have hcz52_1 : w49.cell? ⟨gb389, 1, none⟩ = some (.slice (some ad395) l0_1.length c0_1) := (blk_cell BK389.out 1).trans rfl; have hcz52_2 : w49.cell? ⟨gb389, 2, none⟩ = some (.slice A0_2 l0_2.length c0_2) := (blk_cell BK389.out 2).trans rfl; have hfz52_0 := blk_frozen BK389.out 0; have hfz52_1 := blk_frozen BK389.out 1; have hfz52_2 := blk_frozen BK389.out 2) | (go_at_call 34; (with_reducible refine (wishbookref00_Tween.calls ((rd_T47 l0_1 x5_3).f1) 0 (wrap64 ((l0_0.length : Int) - 1)) true _ A36.out).mono ?_); rintro e w' ⟨rfl, ⟨nd, rfl⟩⟩) | (go_at_call 34; (with_reducible refine (wishbookref00_Tween.calls ((rd_T47 l0_1 x5_3).f2) 1 20 true _ A38.out).mono ?_); rintro e w' ⟨rfl, ⟨nd, rfl⟩⟩) | (go_at_call 34; (with_reducible refine (wishbookref00_Tween.calls ((rd_T47 l0_1 x5_3).f3) 0 100 false _ A40.out).mono ?_); rintro e w' ⟨rfl, ⟨nd, rfl⟩⟩))
                                go_roundg kj27
                                case measure => have := HJ1.out; have := HJ20.out; have := HK3.out; have := HJ27.out; omega
                                case rel => exact ⟨(false), (wrap64 (x5_3 + 1)), (by first | rfl | (simp; done) | (simp [*]; done)), (by first | rfl | (simp; done) | (simp [*]; done)), H', ⟨by have := HJ1.out; have := HJ20.out; have := HK3.out; have := HJ27.out; omega⟩, ⟨by (with_reducible repeat (first | refine blk_drewN ?_ _ | refine blk_drew ?_ | refine blk_alloc ?_ _)); refine blk_far ?_ NB389_396.out _; (with_reducible repeat (first | refine blk_drewN ?_ _ | refine blk_drew ?_ | refine blk_alloc ?_ _)); refine blk_far ?_ NB389_396.out _; (with_reducible repeat (first | refine blk_drewN ?_ _ | refine blk_drew ?_ | refine blk_alloc ?_ _)); refine blk_far ?_ NB389_396.out _; (with_reducible repeat (first | refine blk_drewN ?_ _ | refine blk_drew ?_ | refine blk_alloc ?_ _)); refine blk_far ?_ NB389_396.out _; (with_reducible repeat (first | refine blk_drewN ?_ _ | refine blk_drew ?_ | refine blk_alloc ?_ _)); refine blk_far ?_ NB389_396.out _; (with_reducible repeat (first | refine blk_drewN ?_ _ | refine blk_drew ?_ | refine blk_alloc ?_ _)); exact BK389.out⟩, ⟨by repeat (first | (with_reducible first | exact HB.out | apply below_alloc | apply pw_below_drewN | apply below_drew1 | refine below_set ?_ GE389.out | refine below_set ?_ GE396.out) | exact HB.out)⟩⟩
                            · replace c39 := Bool.eq_false_iff.mpr c39
                              subst c39
                              have H1 : (wishbooklaw10_sound.l1 kj27 false (wrap64 (x5_3 + 1)) l0_0 l0_1 l0_2) = some r := by rw [if_neg (show ¬ (false = true) by decide)] at H; exact H
                              clear H
                              have H := H1
                              clear H1
                              have H' := Aside0.mk H
                              clear H
                              have hcz53_0 : wc.cell? ⟨gb389, 0, none⟩ = some (.slice A0_0 l0_0.length c0_0) := (blk_cell BK389.out 0).trans rfl
                              have hcz53_1 : wc.cell? ⟨gb389, 1, none⟩ = some (.slice A0_1 l0_1.length c0_1) := (blk_cell BK389.out 1).trans rfl
                              have hcz53_2 : wc.cell? ⟨gb389, 2, none⟩ = some (.slice A0_2 l0_2.length c0_2) := (blk_cell BK389.out 2).trans rfl
                              have hfz53_0 := blk_frozen BK389.out 0
                              have hfz53_1 := blk_frozen BK389.out 1
                              have hfz53_2 := blk_frozen BK389.out 2
                              have p395 : 0 ≤ (x5_3 : Int) := of_decide_eq_true (by first | (with_reducible assumption) | assumption)
                              have q395 : x5_3 < (l0_1.length : Int) := of_decide_eq_true (by first | (with_reducible assumption) | assumption)
                              obtain ⟨ad395, e395, hx395_0, hx395_1, hx395_2, hx395_3, hx395_4⟩ := at_T47 HR0_1.out x5_3 p395 q395
                              cases e395
                              replace hx395_0 := (HB.out.cell (World.block_lt_of_cell? w _ hx395_0)).trans hx395_0
                              replace hx395_1 := (HB.out.cell (World.block_lt_of_cell? w _ hx395_1)).trans hx395_1
                              replace hx395_2 := (HB.out.cell (World.block_lt_of_cell? w _ hx395_2)).trans hx395_2
                              replace hx395_3 := (HB.out.cell (World.block_lt_of_cell? w _ hx395_3)).trans hx395_3
                              replace hx395_4 := (HB.out.cell (World.block_lt_of_cell? w _ hx395_4)).trans hx395_4
                              replace p395 := eq_true p395
                              replace q395 := eq_true q395
                              go_wp2_with (first | ((with_reducible refine gate_dst (N := 6) rfl ?_); (try (refine gate_guard (by rfl) ?_; dsimp only)); refine box_event ?hg (N := 6) ?hd (cs := #[.int .i64 0, .int .i64 0, .int .i64 0, .int .i64 0, .int .i64 0]) (t := 47) ?hr ?_; (case hd => rfl); (case hg => rfl); (case hr => first | (go_simp; done) | (go_simp; rfl)); intro gb396 hg w54 hbox hb; have n0_ := Aside0.mk (blk_below (g := gb389) (o := .cells #[.slice A0_0 l0_0.length c0_0, .slice (some ad395) l0_1.length c0_1, .slice A0_2 l0_2.length c0_2] 26 (0, 0)) (by (with_reducible repeat (first | refine blk_drewN ?_ _ | refine blk_drew ?_ | refine blk_alloc ?_ _)); exact BK389.out) hb); have n1_ := Aside0.mk (below_step (by repeat (first | (with_reducible first | exact HB.out | apply below_alloc | apply pw_below_drewN | apply below_drew1 | refine below_set ?_ GE389.out) | exact HB.out)) hb); have n2_ := Aside0.mk (hbox); have n3_ := Aside0.mk ((by rw [hg]; exact (below_size (by repeat (first | (with_reducible first | exact HB.out | apply below_alloc | apply pw_below_drewN | apply below_drew1 | refine below_set ?_ GE389.out) | exact HB.out))) : w.heap.size ≤ gb396)); have n4_ := Aside0.mk ((by rw [hg]; exact (below_size (by repeat (first | (with_reducible first | exact HB.out | apply below_alloc | apply pw_below_drewN | apply below_drew1 | refine below_set ?_ GE389.out) | exact HB.out))) : w.heap.size ≤ gb396)); have n5_ := Aside0.mk ((by rw [hg]; exact Nat.ne_of_lt (blk_lt (g := gb389) (o := .cells #[.slice A0_0 l0_0.length c0_0, .slice (some ad395) l0_1.length c0_1, .slice A0_2 l0_2.length c0_2] 26 (0, 0)) (by (with_reducible repeat (first | refine blk_drewN ?_ _ | refine blk_drew ?_ | refine blk_alloc ?_ _)); exact BK389.out)) : gb389 ≠ gb396)); have n6_ := Aside0.mk ((by rw [hg]; exact Nat.ne_of_gt (blk_lt (g := gb389) (o := .cells #[.slice A0_0 l0_0.length c0_0, .slice (some ad395) l0_1.length c0_1, .slice A0_2 l0_2.length c0_2] 26 (0, 0)) (by (with_reducible repeat (first | refine blk_drewN ?_ _ | refine blk_drew ?_ | refine blk_alloc ?_ _)); exact BK389.out)) : gb396 ≠ gb389)); clear BK389; clear HB; have BK389 := n0_; have HB := n1_; have BK396 := n2_; have GW396 := n3_; have GE396 := n4_; have NB389_396 := n5_; have NB396_389 := n6_; clear n0_ n1_ n2_ n3_ n4_ n5_ n6_; clear hb hbox hg; have hnb55 := NB396_389.out; have hnc55 := NB389_396.out; have hcz56_0 : w54.cell? ⟨gb396, 0, none⟩ = some (.int .i64 0) := (blk_cell BK396.out 0).trans rfl; have hcz56_1 : w54.cell? ⟨gb396, 1, none⟩ = some (.int .i64 0) := (blk_cell BK396.out 1).trans rfl; have hcz56_2 : w54.cell? ⟨gb396, 2, none⟩ = some (.int .i64 0) := (blk_cell BK396.out 2).trans rfl; have hcz56_3 : w54.cell? ⟨gb396, 3, none⟩ = some (.int .i64 0) := (blk_cell BK396.out 3).trans rfl; have hcz56_4 : w54.cell? ⟨gb396, 4, none⟩ = some (.int .i64 0) := (blk_cell BK396.out 4).trans rfl; have hfz56_0 := blk_frozen BK396.out 0; have hfz56_1 := blk_frozen BK396.out 1; have hfz56_2 := blk_frozen BK396.out 2; have hfz56_3 := blk_frozen BK396.out 3; have hfz56_4 := blk_frozen BK396.out 4) | ((with_reducible refine gate_callee (f := 34) rfl ?_); refine goesL_ (some 63) rfl rfl Tryd.func34 (by kernel_rfl) rfl #[.int .i64 ((rd_T47 l0_1 x5_3).f0), .int .i64 0, .int .i64 9] rfl (by (try simp only [List.map_toArray, List.map_cons, List.map_nil]); first | done | rfl | (simp only [List.length_drop, List.length_take]; rfl)) ?_; (with_reducible refine (wishbookref00_Tween.calls ((rd_T47 l0_1 x5_3).f0) 0 9 true _ A34.out).mono ?_); rintro e w' ⟨rfl, ⟨nd, rfl⟩⟩; refine ⟨_, rfl, ?_⟩; have hcz57_0 : w54.cell? ⟨gb389, 0, none⟩ = some (.slice A0_0 l0_0.length c0_0) := (blk_cell BK389.out 0).trans rfl; have hcz57_1 : w54.cell? ⟨gb389, 1, none⟩ = some (.slice (some ad395) l0_1.length c0_1) := (blk_cell BK389.out 1).trans rfl; have hcz57_2 : w54.cell? ⟨gb389, 2, none⟩ = some (.slice A0_2 l0_2.length c0_2) := (blk_cell BK389.out 2).trans rfl; have hfz57_0 := blk_frozen BK389.out 0; have hfz57_1 := blk_frozen BK389.out 1; have hfz57_2 := blk_frozen BK389.out 2) | (go_at_call 34; (with_reducible refine (wishbookref00_Tween.calls ((rd_T47 l0_1 x5_3).f1) 0 (wrap64 ((l0_0.length : Int) - 1)) true _ A36.out).mono ?_); rintro e w' ⟨rfl, ⟨nd, rfl⟩⟩) | (go_at_call 34; (with_reducible refine (wishbookref00_Tween.calls ((rd_T47 l0_1 x5_3).f2) 1 20 false _ A38.out).mono ?_); rintro e w' ⟨rfl, ⟨nd, rfl⟩⟩))
                              go_roundg kj27
                              case measure => have := HJ1.out; have := HJ20.out; have := HK3.out; have := HJ27.out; omega
                              case rel => exact ⟨(false), (wrap64 (x5_3 + 1)), (by first | rfl | (simp; done) | (simp [*]; done)), (by first | rfl | (simp; done) | (simp [*]; done)), H', ⟨by have := HJ1.out; have := HJ20.out; have := HK3.out; have := HJ27.out; omega⟩, ⟨by (with_reducible repeat (first | refine blk_drewN ?_ _ | refine blk_drew ?_ | refine blk_alloc ?_ _)); refine blk_far ?_ NB389_396.out _; (with_reducible repeat (first | refine blk_drewN ?_ _ | refine blk_drew ?_ | refine blk_alloc ?_ _)); refine blk_far ?_ NB389_396.out _; (with_reducible repeat (first | refine blk_drewN ?_ _ | refine blk_drew ?_ | refine blk_alloc ?_ _)); refine blk_far ?_ NB389_396.out _; (with_reducible repeat (first | refine blk_drewN ?_ _ | refine blk_drew ?_ | refine blk_alloc ?_ _)); refine blk_far ?_ NB389_396.out _; (with_reducible repeat (first | refine blk_drewN ?_ _ | refine blk_drew ?_ | refine blk_alloc ?_ _)); refine blk_far ?_ NB389_396.out _; (with_reducible repeat (first | refine blk_drewN ?_ _ | refine blk_drew ?_ | refine blk_alloc ?_ _)); exact BK389.out⟩, ⟨by repeat (first | (with_reducible first | exact HB.out | apply below_alloc | apply pw_below_drewN | apply below_drew1 | refine below_set ?_ GE389.out | refine below_set ?_ GE396.out) | exact HB.out)⟩⟩
                          · replace c37 := Bool.eq_false_iff.mpr c37
                            subst c37
                            have H1 : (wishbooklaw10_sound.l1 kj27 false (wrap64 (x5_3 + 1)) l0_0 l0_1 l0_2) = some r := by rw [if_neg (show ¬ (false = true) by decide)] at H; exact H
                            clear H
                            have H := H1
                            clear H1
                            have H' := Aside0.mk H
                            clear H
                            have hcz58_0 : wc.cell? ⟨gb389, 0, none⟩ = some (.slice A0_0 l0_0.length c0_0) := (blk_cell BK389.out 0).trans rfl
                            have hcz58_1 : wc.cell? ⟨gb389, 1, none⟩ = some (.slice A0_1 l0_1.length c0_1) := (blk_cell BK389.out 1).trans rfl
                            have hcz58_2 : wc.cell? ⟨gb389, 2, none⟩ = some (.slice A0_2 l0_2.length c0_2) := (blk_cell BK389.out 2).trans rfl
                            have hfz58_0 := blk_frozen BK389.out 0
                            have hfz58_1 := blk_frozen BK389.out 1
                            have hfz58_2 := blk_frozen BK389.out 2
                            have p395 : 0 ≤ (x5_3 : Int) := of_decide_eq_true (by first | (with_reducible assumption) | assumption)
                            have q395 : x5_3 < (l0_1.length : Int) := of_decide_eq_true (by first | (with_reducible assumption) | assumption)
                            obtain ⟨ad395, e395, hx395_0, hx395_1, hx395_2, hx395_3, hx395_4⟩ := at_T47 HR0_1.out x5_3 p395 q395
                            cases e395
                            replace hx395_0 := (HB.out.cell (World.block_lt_of_cell? w _ hx395_0)).trans hx395_0
                            replace hx395_1 := (HB.out.cell (World.block_lt_of_cell? w _ hx395_1)).trans hx395_1
                            replace hx395_2 := (HB.out.cell (World.block_lt_of_cell? w _ hx395_2)).trans hx395_2
                            replace hx395_3 := (HB.out.cell (World.block_lt_of_cell? w _ hx395_3)).trans hx395_3
                            replace hx395_4 := (HB.out.cell (World.block_lt_of_cell? w _ hx395_4)).trans hx395_4
                            replace p395 := eq_true p395
                            replace q395 := eq_true q395
                            go_wp2_with (first | ((with_reducible refine gate_dst (N := 6) rfl ?_); (try (refine gate_guard (by rfl) ?_; dsimp only)); refine box_event ?hg (N := 6) ?hd (cs := #[.int .i64 0, .int .i64 0, .int .i64 0, .int .i64 0, .int .i64 0]) (t := 47) ?hr ?_; (case hd => rfl); (case hg => rfl); (case hr => first | (go_simp; done) | (go_simp; rfl)); intro gb396 hg w59 hbox hb; have n0_ := Aside0.mk (blk_below (g := gb389) (o := .cells #[.slice A0_0 l0_0.length c0_0, .slice (some ad395) l0_1.length c0_1, .slice A0_2 l0_2.length c0_2] 26 (0, 0)) (by (with_reducible repeat (first | refine blk_drewN ?_ _ | refine blk_drew ?_ | refine blk_alloc ?_ _)); exact BK389.out) hb); have n1_ := Aside0.mk (below_step (by repeat (first | (with_reducible first | exact HB.out | apply below_alloc | apply pw_below_drewN | apply below_drew1 | refine below_set ?_ GE389.out) | exact HB.out)) hb); have n2_ := Aside0.mk (hbox); have n3_ := Aside0.mk ((by rw [hg]; exact (below_size (by repeat (first | (with_reducible first | exact HB.out | apply below_alloc | apply pw_below_drewN | apply below_drew1 | refine below_set ?_ GE389.out) | exact HB.out))) : w.heap.size ≤ gb396)); have n4_ := Aside0.mk ((by rw [hg]; exact (below_size (by repeat (first | (with_reducible first | exact HB.out | apply below_alloc | apply pw_below_drewN | apply below_drew1 | refine below_set ?_ GE389.out) | exact HB.out))) : w.heap.size ≤ gb396)); have n5_ := Aside0.mk ((by rw [hg]; exact Nat.ne_of_lt (blk_lt (g := gb389) (o := .cells #[.slice A0_0 l0_0.length c0_0, .slice (some ad395) l0_1.length c0_1, .slice A0_2 l0_2.length c0_2] 26 (0, 0)) (by (with_reducible repeat (first | refine blk_drewN ?_ _ | refine blk_drew ?_ | refine blk_alloc ?_ _)); exact BK389.out)) : gb389 ≠ gb396)); have n6_ := Aside0.mk ((by rw [hg]; exact Nat.ne_of_gt (blk_lt (g := gb389) (o := .cells #[.slice A0_0 l0_0.length c0_0, .slice (some ad395) l0_1.length c0_1, .slice A0_2 l0_2.length c0_2] 26 (0, 0)) (by (with_reducible repeat (first | refine blk_drewN ?_ _ | refine blk_drew ?_ | refine blk_alloc ?_ _)); exact BK389.out)) : gb396 ≠ gb389)); clear BK389; clear HB; have BK389 := n0_; have HB := n1_; have BK396 := n2_; have GW396 := n3_; have GE396 := n4_; have NB389_396 := n5_; have NB396_389 := n6_; clear n0_ n1_ n2_ n3_ n4_ n5_ n6_; clear hb hbox hg; have hnb60 := NB396_389.out; have hnc60 := NB389_396.out; have hcz61_0 : w59.cell? ⟨gb396, 0, none⟩ = some (.int .i64 0) := (blk_cell BK396.out 0).trans rfl; have hcz61_1 : w59.cell? ⟨gb396, 1, none⟩ = some (.int .i64 0) := (blk_cell BK396.out 1).trans rfl; have hcz61_2 : w59.cell? ⟨gb396, 2, none⟩ = some (.int .i64 0) := (blk_cell BK396.out 2).trans rfl; have hcz61_3 : w59.cell? ⟨gb396, 3, none⟩ = some (.int .i64 0) := (blk_cell BK396.out 3).trans rfl; have hcz61_4 : w59.cell? ⟨gb396, 4, none⟩ = some (.int .i64 0) := (blk_cell BK396.out 4).trans rfl; have hfz61_0 := blk_frozen BK396.out 0; have hfz61_1 := blk_frozen BK396.out 1; have hfz61_2 := blk_frozen BK396.out 2; have hfz61_3 := blk_frozen BK396.out 3; have hfz61_4 := blk_frozen BK396.out 4) | ((with_reducible refine gate_callee (f := 34) rfl ?_); refine goesL_ (some 63) rfl rfl Tryd.func34 (by kernel_rfl) rfl #[.int .i64 ((rd_T47 l0_1 x5_3).f0), .int .i64 0, .int .i64 9] rfl (by (try simp only [List.map_toArray, List.map_cons, List.map_nil]); first | done | rfl | (simp only [List.length_drop, List.length_take]; rfl)) ?_; (with_reducible refine (wishbookref00_Tween.calls ((rd_T47 l0_1 x5_3).f0) 0 9 true _ A34.out).mono ?_); rintro e w' ⟨rfl, ⟨nd, rfl⟩⟩; refine ⟨_, rfl, ?_⟩; have hcz62_0 : w59.cell? ⟨gb389, 0, none⟩ = some (.slice A0_0 l0_0.length c0_0) := (blk_cell BK389.out 0).trans rfl; have hcz62_1 : w59.cell? ⟨gb389, 1, none⟩ = some (.slice (some ad395) l0_1.length c0_1) := (blk_cell BK389.out 1).trans rfl; have hcz62_2 : w59.cell? ⟨gb389, 2, none⟩ = some (.slice A0_2 l0_2.length c0_2) := (blk_cell BK389.out 2).trans rfl; have hfz62_0 := blk_frozen BK389.out 0; have hfz62_1 := blk_frozen BK389.out 1; have hfz62_2 := blk_frozen BK389.out 2) | (go_at_call 34; (with_reducible refine (wishbookref00_Tween.calls ((rd_T47 l0_1 x5_3).f1) 0 (wrap64 ((l0_0.length : Int) - 1)) false _ A36.out).mono ?_); rintro e w' ⟨rfl, ⟨nd, rfl⟩⟩))
                            go_roundg kj27
                            case measure => have := HJ1.out; have := HJ20.out; have := HK3.out; have := HJ27.out; omega
                            case rel => exact ⟨(false), (wrap64 (x5_3 + 1)), (by first | rfl | (simp; done) | (simp [*]; done)), (by first | rfl | (simp; done) | (simp [*]; done)), H', ⟨by have := HJ1.out; have := HJ20.out; have := HK3.out; have := HJ27.out; omega⟩, ⟨by (with_reducible repeat (first | refine blk_drewN ?_ _ | refine blk_drew ?_ | refine blk_alloc ?_ _)); refine blk_far ?_ NB389_396.out _; (with_reducible repeat (first | refine blk_drewN ?_ _ | refine blk_drew ?_ | refine blk_alloc ?_ _)); refine blk_far ?_ NB389_396.out _; (with_reducible repeat (first | refine blk_drewN ?_ _ | refine blk_drew ?_ | refine blk_alloc ?_ _)); refine blk_far ?_ NB389_396.out _; (with_reducible repeat (first | refine blk_drewN ?_ _ | refine blk_drew ?_ | refine blk_alloc ?_ _)); refine blk_far ?_ NB389_396.out _; (with_reducible repeat (first | refine blk_drewN ?_ _ | refine blk_drew ?_ | refine blk_alloc ?_ _)); refine blk_far ?_ NB389_396.out _; (with_reducible repeat (first | refine blk_drewN ?_ _ | refine blk_drew ?_ | refine blk_alloc ?_ _)); exact BK389.out⟩, ⟨by repeat (first | (with_reducible first | exact HB.out | apply below_alloc | apply pw_below_drewN | apply below_drew1 | refine below_set ?_ GE389.out | refine below_set ?_ GE396.out) | exact HB.out)⟩⟩
                        · replace c35 := Bool.eq_false_iff.mpr c35
                          subst c35
                          have H1 : (wishbooklaw10_sound.l1 kj27 false (wrap64 (x5_3 + 1)) l0_0 l0_1 l0_2) = some r := by rw [if_neg (show ¬ (false = true) by decide)] at H; exact H
                          clear H
                          have H := H1
                          clear H1
                          have H' := Aside0.mk H
                          clear H
                          have hcz63_0 : wc.cell? ⟨gb389, 0, none⟩ = some (.slice A0_0 l0_0.length c0_0) := (blk_cell BK389.out 0).trans rfl
                          have hcz63_1 : wc.cell? ⟨gb389, 1, none⟩ = some (.slice A0_1 l0_1.length c0_1) := (blk_cell BK389.out 1).trans rfl
                          have hcz63_2 : wc.cell? ⟨gb389, 2, none⟩ = some (.slice A0_2 l0_2.length c0_2) := (blk_cell BK389.out 2).trans rfl
                          have hfz63_0 := blk_frozen BK389.out 0
                          have hfz63_1 := blk_frozen BK389.out 1
                          have hfz63_2 := blk_frozen BK389.out 2
                          have p395 : 0 ≤ (x5_3 : Int) := of_decide_eq_true (by first | (with_reducible assumption) | assumption)
                          have q395 : x5_3 < (l0_1.length : Int) := of_decide_eq_true (by first | (with_reducible assumption) | assumption)
                          obtain ⟨ad395, e395, hx395_0, hx395_1, hx395_2, hx395_3, hx395_4⟩ := at_T47 HR0_1.out x5_3 p395 q395
                          cases e395
                          replace hx395_0 := (HB.out.cell (World.block_lt_of_cell? w _ hx395_0)).trans hx395_0
                          replace hx395_1 := (HB.out.cell (World.block_lt_of_cell? w _ hx395_1)).trans hx395_1
                          replace hx395_2 := (HB.out.cell (World.block_lt_of_cell? w _ hx395_2)).trans hx395_2
                          replace hx395_3 := (HB.out.cell (World.block_lt_of_cell? w _ hx395_3)).trans hx395_3
                          replace hx395_4 := (HB.out.cell (World.block_lt_of_cell? w _ hx395_4)).trans hx395_4
                          replace p395 := eq_true p395
                          replace q395 := eq_true q395
                          go_wp2_with (first | ((with_reducible refine gate_dst (N := 6) rfl ?_); (try (refine gate_guard (by rfl) ?_; dsimp only)); refine box_event ?hg (N := 6) ?hd (cs := #[.int .i64 0, .int .i64 0, .int .i64 0, .int .i64 0, .int .i64 0]) (t := 47) ?hr ?_; (case hd => rfl); (case hg => rfl); (case hr => first | (go_simp; done) | (go_simp; rfl)); intro gb396 hg w64 hbox hb; have n0_ := Aside0.mk (blk_below (g := gb389) (o := .cells #[.slice A0_0 l0_0.length c0_0, .slice (some ad395) l0_1.length c0_1, .slice A0_2 l0_2.length c0_2] 26 (0, 0)) (by (with_reducible repeat (first | refine blk_drewN ?_ _ | refine blk_drew ?_ | refine blk_alloc ?_ _)); exact BK389.out) hb); have n1_ := Aside0.mk (below_step (by repeat (first | (with_reducible first | exact HB.out | apply below_alloc | apply pw_below_drewN | apply below_drew1 | refine below_set ?_ GE389.out) | exact HB.out)) hb); have n2_ := Aside0.mk (hbox); have n3_ := Aside0.mk ((by rw [hg]; exact (below_size (by repeat (first | (with_reducible first | exact HB.out | apply below_alloc | apply pw_below_drewN | apply below_drew1 | refine below_set ?_ GE389.out) | exact HB.out))) : w.heap.size ≤ gb396)); have n4_ := Aside0.mk ((by rw [hg]; exact (below_size (by repeat (first | (with_reducible first | exact HB.out | apply below_alloc | apply pw_below_drewN | apply below_drew1 | refine below_set ?_ GE389.out) | exact HB.out))) : w.heap.size ≤ gb396)); have n5_ := Aside0.mk ((by rw [hg]; exact Nat.ne_of_lt (blk_lt (g := gb389) (o := .cells #[.slice A0_0 l0_0.length c0_0, .slice (some ad395) l0_1.length c0_1, .slice A0_2 l0_2.length c0_2] 26 (0, 0)) (by (with_reducible repeat (first | refine blk_drewN ?_ _ | refine blk_drew ?_ | refine blk_alloc ?_ _)); exact BK389.out)) : gb389 ≠ gb396)); have n6_ := Aside0.mk ((by rw [hg]; exact Nat.ne_of_gt (blk_lt (g := gb389) (o := .cells #[.slice A0_0 l0_0.length c0_0, .slice (some ad395) l0_1.length c0_1, .slice A0_2 l0_2.length c0_2] 26 (0, 0)) (by (with_reducible repeat (first | refine blk_drewN ?_ _ | refine blk_drew ?_ | refine blk_alloc ?_ _)); exact BK389.out)) : gb396 ≠ gb389)); clear BK389; clear HB; have BK389 := n0_; have HB := n1_; have BK396 := n2_; have GW396 := n3_; have GE396 := n4_; have NB389_396 := n5_; have NB396_389 := n6_; clear n0_ n1_ n2_ n3_ n4_ n5_ n6_; clear hb hbox hg; have hnb65 := NB396_389.out; have hnc65 := NB389_396.out; have hcz66_0 : w64.cell? ⟨gb396, 0, none⟩ = some (.int .i64 0) := (blk_cell BK396.out 0).trans rfl; have hcz66_1 : w64.cell? ⟨gb396, 1, none⟩ = some (.int .i64 0) := (blk_cell BK396.out 1).trans rfl; have hcz66_2 : w64.cell? ⟨gb396, 2, none⟩ = some (.int .i64 0) := (blk_cell BK396.out 2).trans rfl; have hcz66_3 : w64.cell? ⟨gb396, 3, none⟩ = some (.int .i64 0) := (blk_cell BK396.out 3).trans rfl; have hcz66_4 : w64.cell? ⟨gb396, 4, none⟩ = some (.int .i64 0) := (blk_cell BK396.out 4).trans rfl; have hfz66_0 := blk_frozen BK396.out 0; have hfz66_1 := blk_frozen BK396.out 1; have hfz66_2 := blk_frozen BK396.out 2; have hfz66_3 := blk_frozen BK396.out 3; have hfz66_4 := blk_frozen BK396.out 4) | ((with_reducible refine gate_callee (f := 34) rfl ?_); refine goesL_ (some 63) rfl rfl Tryd.func34 (by kernel_rfl) rfl #[.int .i64 ((rd_T47 l0_1 x5_3).f0), .int .i64 0, .int .i64 9] rfl (by (try simp only [List.map_toArray, List.map_cons, List.map_nil]); first | done | rfl | (simp only [List.length_drop, List.length_take]; rfl)) ?_; (with_reducible refine (wishbookref00_Tween.calls ((rd_T47 l0_1 x5_3).f0) 0 9 false _ A34.out).mono ?_); rintro e w' ⟨rfl, ⟨nd, rfl⟩⟩; refine ⟨_, rfl, ?_⟩))
                          go_roundg kj27
                          case measure => have := HJ1.out; have := HJ20.out; have := HK3.out; have := HJ27.out; omega
                          case rel => exact ⟨(false), (wrap64 (x5_3 + 1)), (by first | rfl | (simp; done) | (simp [*]; done)), (by first | rfl | (simp; done) | (simp [*]; done)), H', ⟨by have := HJ1.out; have := HJ20.out; have := HK3.out; have := HJ27.out; omega⟩, ⟨by (with_reducible repeat (first | refine blk_drewN ?_ _ | refine blk_drew ?_ | refine blk_alloc ?_ _)); refine blk_far ?_ NB389_396.out _; (with_reducible repeat (first | refine blk_drewN ?_ _ | refine blk_drew ?_ | refine blk_alloc ?_ _)); refine blk_far ?_ NB389_396.out _; (with_reducible repeat (first | refine blk_drewN ?_ _ | refine blk_drew ?_ | refine blk_alloc ?_ _)); refine blk_far ?_ NB389_396.out _; (with_reducible repeat (first | refine blk_drewN ?_ _ | refine blk_drew ?_ | refine blk_alloc ?_ _)); refine blk_far ?_ NB389_396.out _; (with_reducible repeat (first | refine blk_drewN ?_ _ | refine blk_drew ?_ | refine blk_alloc ?_ _)); refine blk_far ?_ NB389_396.out _; (with_reducible repeat (first | refine blk_drewN ?_ _ | refine blk_drew ?_ | refine blk_alloc ?_ _)); exact BK389.out⟩, ⟨by repeat (first | (with_reducible first | exact HB.out | apply below_alloc | apply pw_below_drewN | apply below_drew1 | refine below_set ?_ GE389.out | refine below_set ?_ GE396.out) | exact HB.out)⟩⟩
                      · rw [if_neg c33] at H
                        exact absurd H (by simp)
                    · rw [if_neg c32] at H
                      exact absurd H (by simp)
                  · replace c31 := Bool.eq_false_iff.mpr c31
                    subst c31
                    have H1 : (wishbooklaw10_sound.l2 kj27 x3_3 0 l0_0 l0_1 l0_2) = some r := by rw [if_neg (show ¬ (false = true) by decide)] at H; exact H
                    clear H
                    have H := H1
                    clear H1
                    have H' := Aside0.mk H
                    clear H
                    go_wp2
                    go_loopg [3, 7] kj27 (fun kq v3 v7 w' => ∃ (x3_5 : Bool) (x7_5 : Int), v3 = .bool x3_5 ∧ v7 = .int .i64 x7_5 ∧ Aside0 (wishbooklaw10_sound.l2 kq x3_5 x7_5 l0_0 l0_1 l0_2 = some r) ∧ Aside0 (kq ≤ kj27) ∧ Aside0 (w'.heap[gb389]? = some (.cells #[(.slice A0_0 l0_0.length c0_0), (.slice A0_1 l0_1.length c0_1), (.slice A0_2 l0_2.length c0_2)] 26 (0, 0))) ∧ Aside0 (Below w.heap.size w w'))
                    case atStart => exact ⟨(x3_3), (0), (by first | rfl | (simp; done) | (simp [*]; done)), (by first | rfl | (simp; done) | (simp [*]; done)), H', ⟨Nat.le_refl _⟩, ⟨by (with_reducible repeat (first | refine blk_drewN ?_ _ | refine blk_drew ?_ | refine blk_alloc ?_ _)); exact BK389.out⟩, ⟨by repeat (first | (with_reducible first | exact HB.out | apply below_alloc | apply pw_below_drewN | apply below_drew1 | refine below_set ?_ GE389.out) | exact HB.out)⟩⟩
                    case round =>
                      clear H'
                      try clear c2
                      try clear p2
                      try clear c3
                      try clear p3
                      try clear q3
                      try clear hx3
                      try clear c4
                      try clear c5
                      try clear c5b0
                      try clear c5b1
                      try clear c6
                      try clear p6
                      try clear c7
                      try clear c9
                      try clear c22
                      try clear c23
                      try clear c23b0
                      try clear c24
                      try clear c24b0
                      try clear c29
                      try clear c30
                      try clear c31
                      try clear c32
                      try clear c32b0
                      try clear c33
                      try clear c33b0
                      try clear c34
                      try clear c35
                      try clear c37
                      try clear c39
                      try clear p39
                      try clear q39
                      try clear hx39
                      try clear c41
                      try clear c45
                      try clear c50
                      try clear c55
                      try clear c60
                      try clear p64
                      try clear c65
                      try clear hcz10_0
                      try clear hcz10_1
                      try clear hcz10_2
                      try clear hcz12_0
                      try clear hcz12_1
                      try clear hcz12_2
                      try clear hcz13_0
                      try clear hcz13_1
                      try clear hcz13_2
                      try clear hcz15_0
                      try clear hcz15_1
                      try clear hcz15_2
                      try clear hcz16_0
                      try clear hcz16_1
                      try clear hcz16_2
                      try clear hcz18_0
                      try clear hcz18_1
                      try clear hcz18_2
                      try clear hcz19_0
                      try clear hcz19_1
                      try clear hcz19_2
                      try clear hcz26_0
                      try clear hcz26_1
                      try clear hcz26_2
                      try clear hcz27_0
                      try clear hcz27_1
                      try clear hcz27_2
                      try clear hcz30_0
                      try clear hcz30_1
                      try clear hcz30_2
                      try clear hcz43_0
                      try clear hcz43_1
                      try clear hcz43_2
                      try clear hcz46_0
                      try clear hcz46_1
                      try clear hcz46_2
                      try clear hcz46_3
                      try clear hcz46_4
                      try clear hcz47_0
                      try clear hcz47_1
                      try clear hcz47_2
                      try clear hcz48_0
                      try clear hcz48_1
                      try clear hcz48_2
                      try clear hcz51_0
                      try clear hcz51_1
                      try clear hcz51_2
                      try clear hcz51_3
                      try clear hcz51_4
                      try clear hcz52_0
                      try clear hcz52_1
                      try clear hcz52_2
                      try clear hcz53_0
                      try clear hcz53_1
                      try clear hcz53_2
                      try clear hcz56_0
                      try clear hcz56_1
                      try clear hcz56_2
                      try clear hcz56_3
                      try clear hcz56_4
                      try clear hcz57_0
                      try clear hcz57_1
                      try clear hcz57_2
                      try clear hcz58_0
                      try clear hcz58_1
                      try clear hcz58_2
                      try clear hcz61_0
                      try clear hcz61_1
                      try clear hcz61_2
                      try clear hcz61_3
                      try clear hcz61_4
                      try clear hcz62_0
                      try clear hcz62_1
                      try clear hcz62_2
                      try clear hcz63_0
                      try clear hcz63_1
                      try clear hcz63_2
                      try clear hcz66_0
                      try clear hcz66_1
                      try clear hcz66_2
                      try clear hcz66_3
                      try clear hcz66_4
                      try clear hfz10_0
                      try clear hfz10_1
                      try clear hfz10_2
                      try clear hfz12_0
                      try clear hfz12_1
                      try clear hfz12_2
                      try clear hfz13_0
                      try clear hfz13_1
                      try clear hfz13_2
                      try clear hfz15_0
                      try clear hfz15_1
                      try clear hfz15_2
                      try clear hfz16_0
                      try clear hfz16_1
                      try clear hfz16_2
                      try clear hfz18_0
                      try clear hfz18_1
                      try clear hfz18_2
                      try clear hfz19_0
                      try clear hfz19_1
                      try clear hfz19_2
                      try clear hfz26_0
                      try clear hfz26_1
                      try clear hfz26_2
                      try clear hfz27_0
                      try clear hfz27_1
                      try clear hfz27_2
                      try clear hfz30_0
                      try clear hfz30_1
                      try clear hfz30_2
                      try clear hfz43_0
                      try clear hfz43_1
                      try clear hfz43_2
                      try clear hfz46_0
                      try clear hfz46_1
                      try clear hfz46_2
                      try clear hfz46_3
                      try clear hfz46_4
                      try clear hfz47_0
                      try clear hfz47_1
                      try clear hfz47_2
                      try clear hfz48_0
                      try clear hfz48_1
                      try clear hfz48_2
                      try clear hfz51_0
                      try clear hfz51_1
                      try clear hfz51_2
                      try clear hfz51_3
                      try clear hfz51_4
                      try clear hfz52_0
                      try clear hfz52_1
                      try clear hfz52_2
                      try clear hfz53_0
                      try clear hfz53_1
                      try clear hfz53_2
                      try clear hfz56_0
                      try clear hfz56_1
                      try clear hfz56_2
                      try clear hfz56_3
                      try clear hfz56_4
                      try clear hfz57_0
                      try clear hfz57_1
                      try clear hfz57_2
                      try clear hfz58_0
                      try clear hfz58_1
                      try clear hfz58_2
                      try clear hfz61_0
                      try clear hfz61_1
                      try clear hfz61_2
                      try clear hfz61_3
                      try clear hfz61_4
                      try clear hfz62_0
                      try clear hfz62_1
                      try clear hfz62_2
                      try clear hfz63_0
                      try clear hfz63_1
                      try clear hfz63_2
                      try clear hfz66_0
                      try clear hfz66_1
                      try clear hfz66_2
                      try clear hfz66_3
                      try clear hfz66_4
                      try clear hx393_0
                      try clear hx395_0
                      try clear hx395_1
                      try clear hx395_2
                      try clear hx395_3
                      try clear hx395_4
                      try clear p2
                      try clear p3
                      try clear p393
                      try clear p395
                      try clear p6
                      try clear q3
                      try clear q393
                      try clear q395
                      obtain ⟨x3_5, x7_5, rfl, rfl, HA, HK5, BK389, HB⟩ := hrel
                      cases gk with
                      | zero => exact absurd HA.out (by simp [wishbooklaw10_sound.l2])
                      | succ k5 =>
                        have H := HA.out
                        clear HA
                        simp only [wishbooklaw10_sound.l2] at H
                        have HC67 := Aside0.mk H
                        clear H
                        go_upto_region 12 with (fail)
                        go_cut [99] (fun v99 wc => ∃ (kq : Nat) (x99_66 : Bool), v99 = .bool x99_66 ∧ Aside0 (wishbooklaw10_sound.j6 kq x3_5 x7_5 x99_66 l0_0 l0_1 l0_2 = some r) ∧ Aside0 (kq ≤ k5) ∧ Aside0 (wc.heap[gb389]? = some (.cells #[(.slice A0_0 l0_0.length c0_0), (.slice A0_1 l0_1.length c0_1), (.slice A0_2 l0_2.length c0_2)] 26 (0, 0))) ∧ Aside0 (Below w.heap.size w wc))
                        case first =>
                          have H := HC67.out
                          clear HC67
                          by_cases c68 : x3_5 = true
                          · subst c68
                            have H1 : (wishbooklaw10_sound.j6 k5 true x7_5 (decide (x7_5 < (l0_2.length : Int))) l0_0 l0_1 l0_2) = some r := by rw [if_pos rfl] at H; exact H
                            clear H
                            have H := H1
                            clear H1
                            have H' := Aside0.mk H
                            clear H
                            have hcz69_0 : wr.cell? ⟨gb389, 0, none⟩ = some (.slice A0_0 l0_0.length c0_0) := (blk_cell BK389.out 0).trans rfl
                            have hcz69_1 : wr.cell? ⟨gb389, 1, none⟩ = some (.slice A0_1 l0_1.length c0_1) := (blk_cell BK389.out 1).trans rfl
                            have hcz69_2 : wr.cell? ⟨gb389, 2, none⟩ = some (.slice A0_2 l0_2.length c0_2) := (blk_cell BK389.out 2).trans rfl
                            have hfz69_0 := blk_frozen BK389.out 0
                            have hfz69_1 := blk_frozen BK389.out 1
                            have hfz69_2 := blk_frozen BK389.out 2
                            go_wp2
                            go_meet
                            case rel => exact ⟨_, (decide (x7_5 < (l0_2.length : Int))), (by first | rfl | (simp; done) | (simp [*]; done)), H', ⟨by have := HJ1.out; have := HJ20.out; have := HK3.out; have := HJ27.out; have := HK5.out; first | omega | exact Nat.le_refl _⟩, ⟨by (with_reducible repeat (first | refine blk_drewN ?_ _ | refine blk_drew ?_ | refine blk_alloc ?_ _)); exact BK389.out⟩, ⟨by repeat (first | (with_reducible first | exact HB.out | apply below_alloc | apply pw_below_drewN | apply below_drew1 | refine below_set ?_ GE389.out) | exact HB.out)⟩⟩
                          · replace c68 := Bool.eq_false_iff.mpr c68
                            subst c68
                            have H1 : (wishbooklaw10_sound.j6 k5 false x7_5 false l0_0 l0_1 l0_2) = some r := by rw [if_neg (show ¬ (false = true) by decide)] at H; exact H
                            clear H
                            have H := H1
                            clear H1
                            have H' := Aside0.mk H
                            clear H
                            go_wp2
                            go_meet
                            case rel => exact ⟨_, (false), (by first | rfl | (simp; done) | (simp [*]; done)), H', ⟨by have := HJ1.out; have := HJ20.out; have := HK3.out; have := HJ27.out; have := HK5.out; first | omega | exact Nat.le_refl _⟩, ⟨by (with_reducible repeat (first | refine blk_drewN ?_ _ | refine blk_drew ?_ | refine blk_alloc ?_ _)); exact BK389.out⟩, ⟨by repeat (first | (with_reducible first | exact HB.out | apply below_alloc | apply pw_below_drewN | apply below_drew1 | refine below_set ?_ GE389.out) | exact HB.out)⟩⟩
                        case rest =>
                          clear HC67
                          try clear c2
                          try clear p2
                          try clear c3
                          try clear p3
                          try clear q3
                          try clear hx3
                          try clear c4
                          try clear c5
                          try clear c5b0
                          try clear c5b1
                          try clear c6
                          try clear p6
                          try clear c7
                          try clear c9
                          try clear c22
                          try clear c23
                          try clear c23b0
                          try clear c24
                          try clear c24b0
                          try clear c29
                          try clear c30
                          try clear c31
                          try clear c32
                          try clear c32b0
                          try clear c33
                          try clear c33b0
                          try clear c34
                          try clear c35
                          try clear c37
                          try clear c39
                          try clear p39
                          try clear q39
                          try clear hx39
                          try clear c41
                          try clear c45
                          try clear c50
                          try clear c55
                          try clear c60
                          try clear p64
                          try clear c65
                          try clear c68
                          try clear hcz10_0
                          try clear hcz10_1
                          try clear hcz10_2
                          try clear hcz12_0
                          try clear hcz12_1
                          try clear hcz12_2
                          try clear hcz13_0
                          try clear hcz13_1
                          try clear hcz13_2
                          try clear hcz15_0
                          try clear hcz15_1
                          try clear hcz15_2
                          try clear hcz16_0
                          try clear hcz16_1
                          try clear hcz16_2
                          try clear hcz18_0
                          try clear hcz18_1
                          try clear hcz18_2
                          try clear hcz19_0
                          try clear hcz19_1
                          try clear hcz19_2
                          try clear hcz26_0
                          try clear hcz26_1
                          try clear hcz26_2
                          try clear hcz27_0
                          try clear hcz27_1
                          try clear hcz27_2
                          try clear hcz30_0
                          try clear hcz30_1
                          try clear hcz30_2
                          try clear hcz43_0
                          try clear hcz43_1
                          try clear hcz43_2
                          try clear hcz46_0
                          try clear hcz46_1
                          try clear hcz46_2
                          try clear hcz46_3
                          try clear hcz46_4
                          try clear hcz47_0
                          try clear hcz47_1
                          try clear hcz47_2
                          try clear hcz48_0
                          try clear hcz48_1
                          try clear hcz48_2
                          try clear hcz51_0
                          try clear hcz51_1
                          try clear hcz51_2
                          try clear hcz51_3
                          try clear hcz51_4
                          try clear hcz52_0
                          try clear hcz52_1
                          try clear hcz52_2
                          try clear hcz53_0
                          try clear hcz53_1
                          try clear hcz53_2
                          try clear hcz56_0
                          try clear hcz56_1
                          try clear hcz56_2
                          try clear hcz56_3
                          try clear hcz56_4
                          try clear hcz57_0
                          try clear hcz57_1
                          try clear hcz57_2
                          try clear hcz58_0
                          try clear hcz58_1
                          try clear hcz58_2
                          try clear hcz61_0
                          try clear hcz61_1
                          try clear hcz61_2
                          try clear hcz61_3
                          try clear hcz61_4
                          try clear hcz62_0
                          try clear hcz62_1
                          try clear hcz62_2
                          try clear hcz63_0
                          try clear hcz63_1
                          try clear hcz63_2
                          try clear hcz66_0
                          try clear hcz66_1
                          try clear hcz66_2
                          try clear hcz66_3
                          try clear hcz66_4
                          try clear hcz69_0
                          try clear hcz69_1
                          try clear hcz69_2
                          try clear hfz10_0
                          try clear hfz10_1
                          try clear hfz10_2
                          try clear hfz12_0
                          try clear hfz12_1
                          try clear hfz12_2
                          try clear hfz13_0
                          try clear hfz13_1
                          try clear hfz13_2
                          try clear hfz15_0
                          try clear hfz15_1
                          try clear hfz15_2
                          try clear hfz16_0
                          try clear hfz16_1
                          try clear hfz16_2
                          try clear hfz18_0
                          try clear hfz18_1
                          try clear hfz18_2
                          try clear hfz19_0
                          try clear hfz19_1
                          try clear hfz19_2
                          try clear hfz26_0
                          try clear hfz26_1
                          try clear hfz26_2
                          try clear hfz27_0
                          try clear hfz27_1
                          try clear hfz27_2
                          try clear hfz30_0
                          try clear hfz30_1
                          try clear hfz30_2
                          try clear hfz43_0
                          try clear hfz43_1
                          try clear hfz43_2
                          try clear hfz46_0
                          try clear hfz46_1
                          try clear hfz46_2
                          try clear hfz46_3
                          try clear hfz46_4
                          try clear hfz47_0
                          try clear hfz47_1
                          try clear hfz47_2
                          try clear hfz48_0
                          try clear hfz48_1
                          try clear hfz48_2
                          try clear hfz51_0
                          try clear hfz51_1
                          try clear hfz51_2
                          try clear hfz51_3
                          try clear hfz51_4
                          try clear hfz52_0
                          try clear hfz52_1
                          try clear hfz52_2
                          try clear hfz53_0
                          try clear hfz53_1
                          try clear hfz53_2
                          try clear hfz56_0
                          try clear hfz56_1
                          try clear hfz56_2
                          try clear hfz56_3
                          try clear hfz56_4
                          try clear hfz57_0
                          try clear hfz57_1
                          try clear hfz57_2
                          try clear hfz58_0
                          try clear hfz58_1
                          try clear hfz58_2
                          try clear hfz61_0
                          try clear hfz61_1
                          try clear hfz61_2
                          try clear hfz61_3
                          try clear hfz61_4
                          try clear hfz62_0
                          try clear hfz62_1
                          try clear hfz62_2
                          try clear hfz63_0
                          try clear hfz63_1
                          try clear hfz63_2
                          try clear hfz66_0
                          try clear hfz66_1
                          try clear hfz66_2
                          try clear hfz66_3
                          try clear hfz66_4
                          try clear hfz69_0
                          try clear hfz69_1
                          try clear hfz69_2
                          try clear hx393_0
                          try clear hx395_0
                          try clear hx395_1
                          try clear hx395_2
                          try clear hx395_3
                          try clear hx395_4
                          try clear p2
                          try clear p3
                          try clear p39
                          try clear p393
                          try clear p395
                          try clear p6
                          try clear p64
                          try clear q3
                          try clear q39
                          try clear q393
                          try clear q395
                          obtain ⟨kq, x99_66, rfl, HA, HJ66, BK389, HB⟩ := hcut
                          cases kq with
                          | zero => exact absurd HA.out (by simp [wishbooklaw10_sound.j6])
                          | succ kj66 =>
                            have H := HA.out
                            clear HA
                            simp only [wishbooklaw10_sound.j6] at H
                            by_cases c70 : x99_66 = true
                            · subst c70
                              have H1 : (if 0 ≤ x7_5 then (if x7_5 < (l0_2.length : Int) then ((wishbookref00_Tween.f ((rd_T57 l0_2 x7_5).f0) 0 (wrap64 ((l0_0.length : Int) - 1))).bind fun t404 => (if t404 = true then ((wishbookref00_Proper.f ((rd_T57 l0_2 x7_5).f1.f0) ((rd_T57 l0_2 x7_5).f1.f1) 1 100).bind fun t405 => (if t405 = true then ((wishbookref00_Proper.f ((rd_T57 l0_2 x7_5).f2.f0) ((rd_T57 l0_2 x7_5).f2.f1) 0 50).bind fun t406 => (wishbooklaw10_sound.l2 kj66 t406 (wrap64 (x7_5 + 1)) l0_0 l0_1 l0_2)) else (wishbooklaw10_sound.l2 kj66 false (wrap64 (x7_5 + 1)) l0_0 l0_1 l0_2))) else (wishbooklaw10_sound.l2 kj66 false (wrap64 (x7_5 + 1)) l0_0 l0_1 l0_2))) else (none)) else (none)) = some r := by rw [if_pos rfl] at H; exact H
                              clear H
                              have H := H1
                              clear H1
                              by_cases c71 : 0 ≤ x7_5
                              · rw [if_pos c71] at H
                                have c71b0 : decide (0 ≤ x7_5) = true := decide_eq_true c71
                                clear c71
                                by_cases c72 : x7_5 < (l0_2.length : Int)
                                · rw [if_pos c72] at H
                                  have c72b0 : decide (x7_5 < (l0_2.length : Int)) = true := decide_eq_true c72
                                  clear c72
                                  replace H := Option.bind_eq_some_iff.mp H
                                  obtain ⟨t404, A730, H⟩ := H
                                  replace H : (if t404 = true then ((wishbookref00_Proper.f ((rd_T57 l0_2 x7_5).f1.f0) ((rd_T57 l0_2 x7_5).f1.f1) 1 100).bind fun t405 => (if t405 = true then ((wishbookref00_Proper.f ((rd_T57 l0_2 x7_5).f2.f0) ((rd_T57 l0_2 x7_5).f2.f1) 0 50).bind fun t406 => (wishbooklaw10_sound.l2 kj66 t406 (wrap64 (x7_5 + 1)) l0_0 l0_1 l0_2)) else (wishbooklaw10_sound.l2 kj66 false (wrap64 (x7_5 + 1)) l0_0 l0_1 l0_2))) else (wishbooklaw10_sound.l2 kj66 false (wrap64 (x7_5 + 1)) l0_0 l0_1 l0_2)) = some r := H
                                  have A73 := Aside0.mk A730
                                  clear A730
                                  by_cases c74 : t404 = true
                                  · subst c74
                                    have H1 : ((wishbookref00_Proper.f ((rd_T57 l0_2 x7_5).f1.f0) ((rd_T57 l0_2 x7_5).f1.f1) 1 100).bind fun t405 => (if t405 = true then ((wishbookref00_Proper.f ((rd_T57 l0_2 x7_5).f2.f0) ((rd_T57 l0_2 x7_5).f2.f1) 0 50).bind fun t406 => (wishbooklaw10_sound.l2 kj66 t406 (wrap64 (x7_5 + 1)) l0_0 l0_1 l0_2)) else (wishbooklaw10_sound.l2 kj66 false (wrap64 (x7_5 + 1)) l0_0 l0_1 l0_2))) = some r := by rw [if_pos rfl] at H; exact H
                                    clear H
                                    have H := H1
                                    clear H1
                                    replace H := Option.bind_eq_some_iff.mp H
                                    obtain ⟨t405, A750, H⟩ := H
                                    replace H : (if t405 = true then ((wishbookref00_Proper.f ((rd_T57 l0_2 x7_5).f2.f0) ((rd_T57 l0_2 x7_5).f2.f1) 0 50).bind fun t406 => (wishbooklaw10_sound.l2 kj66 t406 (wrap64 (x7_5 + 1)) l0_0 l0_1 l0_2)) else (wishbooklaw10_sound.l2 kj66 false (wrap64 (x7_5 + 1)) l0_0 l0_1 l0_2)) = some r := H
                                    have A75 := Aside0.mk A750
                                    clear A750
                                    by_cases c76 : t405 = true
                                    · subst c76
                                      have H1 : ((wishbookref00_Proper.f ((rd_T57 l0_2 x7_5).f2.f0) ((rd_T57 l0_2 x7_5).f2.f1) 0 50).bind fun t406 => (wishbooklaw10_sound.l2 kj66 t406 (wrap64 (x7_5 + 1)) l0_0 l0_1 l0_2)) = some r := by rw [if_pos rfl] at H; exact H
                                      clear H
                                      have H := H1
                                      clear H1
                                      replace H := Option.bind_eq_some_iff.mp H
                                      obtain ⟨t406, A770, H⟩ := H
                                      replace H : (wishbooklaw10_sound.l2 kj66 t406 (wrap64 (x7_5 + 1)) l0_0 l0_1 l0_2) = some r := H
                                      have A77 := Aside0.mk A770
                                      clear A770
                                      have H' := Aside0.mk H
                                      clear H
                                      have hcz78_0 : wc.cell? ⟨gb389, 0, none⟩ = some (.slice A0_0 l0_0.length c0_0) := (blk_cell BK389.out 0).trans rfl
                                      have hcz78_1 : wc.cell? ⟨gb389, 1, none⟩ = some (.slice A0_1 l0_1.length c0_1) := (blk_cell BK389.out 1).trans rfl
                                      have hcz78_2 : wc.cell? ⟨gb389, 2, none⟩ = some (.slice A0_2 l0_2.length c0_2) := (blk_cell BK389.out 2).trans rfl
                                      have hfz78_0 := blk_frozen BK389.out 0
                                      have hfz78_1 := blk_frozen BK389.out 1
                                      have hfz78_2 := blk_frozen BK389.out 2
                                      have p402 : 0 ≤ (x7_5 : Int) := of_decide_eq_true (by first | (with_reducible assumption) | assumption)
                                      have q402 : x7_5 < (l0_2.length : Int) := of_decide_eq_true (by first | (with_reducible assumption) | assumption)
                                      obtain ⟨ad402, e402, hx402_0, hx402_1, hx402_2, hx402_3, hx402_4⟩ := at_T57 HR0_2.out x7_5 p402 q402
                                      cases e402
                                      replace hx402_0 := (HB.out.cell (World.block_lt_of_cell? w _ hx402_0)).trans hx402_0
                                      replace hx402_1 := (HB.out.cell (World.block_lt_of_cell? w _ hx402_1)).trans hx402_1
                                      replace hx402_2 := (HB.out.cell (World.block_lt_of_cell? w _ hx402_2)).trans hx402_2
                                      replace hx402_3 := (HB.out.cell (World.block_lt_of_cell? w _ hx402_3)).trans hx402_3
                                      replace hx402_4 := (HB.out.cell (World.block_lt_of_cell? w _ hx402_4)).trans hx402_4
                                      replace p402 := eq_true p402
                                      replace q402 := eq_true q402
                                      go_wp2_with (first | ((with_reducible refine gate_dst (N := 8) rfl ?_); (try (refine gate_guard (by rfl) ?_; dsimp only)); refine box_event ?hg (N := 8) ?hd (cs := #[.int .i64 0, .int .i64 0, .int .i64 0, .int .i64 0, .int .i64 0]) (t := 57) ?hr ?_; (case hd => rfl); (case hg => rfl); (case hr => first | (go_simp; done) | (go_simp; rfl)); intro gb403 hg w79 hbox hb; have n0_ := Aside0.mk (blk_below (g := gb389) (o := .cells #[.slice A0_0 l0_0.length c0_0, .slice A0_1 l0_1.length c0_1, .slice (some ad402) l0_2.length c0_2] 26 (0, 0)) (by (with_reducible repeat (first | refine blk_drewN ?_ _ | refine blk_drew ?_ | refine blk_alloc ?_ _)); exact BK389.out) hb); have n1_ := Aside0.mk (below_step (by repeat (first | (with_reducible first | exact HB.out | apply below_alloc | apply pw_below_drewN | apply below_drew1 | refine below_set ?_ GE389.out) | exact HB.out)) hb); have n2_ := Aside0.mk (hbox); have n3_ := Aside0.mk ((by rw [hg]; exact (below_size (by repeat (first | (with_reducible first | exact HB.out | apply below_alloc | apply pw_below_drewN | apply below_drew1 | refine below_set ?_ GE389.out) | exact HB.out))) : w.heap.size ≤ gb403)); have n4_ := Aside0.mk ((by rw [hg]; exact (below_size (by repeat (first | (with_reducible first | exact HB.out | apply below_alloc | apply pw_below_drewN | apply below_drew1 | refine below_set ?_ GE389.out) | exact HB.out))) : w.heap.size ≤ gb403)); have n5_ := Aside0.mk ((by rw [hg]; exact Nat.ne_of_lt (blk_lt (g := gb389) (o := .cells #[.slice A0_0 l0_0.length c0_0, .slice A0_1 l0_1.length c0_1, .slice (some ad402) l0_2.length c0_2] 26 (0, 0)) (by (with_reducible repeat (first | refine blk_drewN ?_ _ | refine blk_drew ?_ | refine blk_alloc ?_ _)); exact BK389.out)) : gb389 ≠ gb403)); have n6_ := Aside0.mk ((by rw [hg]; exact Nat.ne_of_gt (blk_lt (g := gb389) (o := .cells #[.slice A0_0 l0_0.length c0_0, .slice A0_1 l0_1.length c0_1, .slice (some ad402) l0_2.length c0_2] 26 (0, 0)) (by (with_reducible repeat (first | refine blk_drewN ?_ _ | refine blk_drew ?_ | refine blk_alloc ?_ _)); exact BK389.out)) : gb403 ≠ gb389)); clear BK389; clear HB; have BK389 := n0_; have HB := n1_; have BK403 := n2_; have GW403 := n3_; have GE403 := n4_; have NB389_403 := n5_; have NB403_389 := n6_; clear n0_ n1_ n2_ n3_ n4_ n5_ n6_; clear hb hbox hg; have hnb80 := NB403_389.out; have hnc80 := NB389_403.out; have hcz81_0 : w79.cell? ⟨gb403, 0, none⟩ = some (.int .i64 0) := (blk_cell BK403.out 0).trans rfl; have hcz81_1 : w79.cell? ⟨gb403, 1, none⟩ = some (.int .i64 0) := (blk_cell BK403.out 1).trans rfl; have hcz81_2 : w79.cell? ⟨gb403, 2, none⟩ = some (.int .i64 0) := (blk_cell BK403.out 2).trans rfl; have hcz81_3 : w79.cell? ⟨gb403, 3, none⟩ = some (.int .i64 0) := (blk_cell BK403.out 3).trans rfl; have hcz81_4 : w79.cell? ⟨gb403, 4, none⟩ = some (.int .i64 0) := (blk_cell BK403.out 4).trans rfl; have hfz81_0 := blk_frozen BK403.out 0; have hfz81_1 := blk_frozen BK403.out 1; have hfz81_2 := blk_frozen BK403.out 2; have hfz81_3 := blk_frozen BK403.out 3; have hfz81_4 := blk_frozen BK403.out 4; have hcz82_0 : w79.cell? ⟨gb389, 0, none⟩ = some (.slice A0_0 l0_0.length c0_0) := (blk_cell BK389.out 0).trans rfl; have hcz82_1 : w79.cell? ⟨gb389, 1, none⟩ = some (.slice A0_1 l0_1.length c0_1) := (blk_cell BK389.out 1).trans rfl; have hcz82_2 : w79.cell? ⟨gb389, 2, none⟩ = some (.slice (some ad402) l0_2.length c0_2) := (blk_cell BK389.out 2).trans rfl; have hfz82_0 := blk_frozen BK389.out 0; have hfz82_1 := blk_frozen BK389.out 1; have hfz82_2 := blk_frozen BK389.out 2) | ((with_reducible refine gate_callee (f := 34) rfl ?_); refine goesL_ (some 113) rfl rfl Tryd.func34 (by kernel_rfl) rfl #[.int .i64 ((rd_T57 l0_2 x7_5).f0), .int .i64 0, .int .i64 (wrap64 ((l0_0.length : Int) - 1))] rfl (by (try simp only [List.map_toArray, List.map_cons, List.map_nil]); first | done | rfl | (simp only [List.length_drop, List.length_take]; rfl)) ?_; (with_reducible refine (wishbookref00_Tween.calls ((rd_T57 l0_2 x7_5).f0) 0 (wrap64 ((l0_0.length : Int) - 1)) true _ A73.out).mono ?_); rintro e w' ⟨rfl, ⟨nd, rfl⟩⟩; refine ⟨_, rfl, ?_⟩) | (go_at_call 65; (with_reducible refine (wishbookref00_Proper.calls ((rd_T57 l0_2 x7_5).f1.f0) ((rd_T57 l0_2 x7_5).f1.f1) 1 100 true _ A75.out).mono ?_); rintro e w83 ⟨rfl, hb⟩; have n0_ := Aside0.mk (blk_below (g := gb389) (o := .cells #[.slice A0_0 l0_0.length c0_0, .slice A0_1 l0_1.length c0_1, .slice (some ad402) l0_2.length c0_2] 26 (0, 0)) (by (with_reducible repeat (first | refine blk_drewN ?_ _ | refine blk_drew ?_ | refine blk_alloc ?_ _)); refine blk_far ?_ NB389_403.out _; (with_reducible repeat (first | refine blk_drewN ?_ _ | refine blk_drew ?_ | refine blk_alloc ?_ _)); refine blk_far ?_ NB389_403.out _; (with_reducible repeat (first | refine blk_drewN ?_ _ | refine blk_drew ?_ | refine blk_alloc ?_ _)); refine blk_far ?_ NB389_403.out _; (with_reducible repeat (first | refine blk_drewN ?_ _ | refine blk_drew ?_ | refine blk_alloc ?_ _)); refine blk_far ?_ NB389_403.out _; (with_reducible repeat (first | refine blk_drewN ?_ _ | refine blk_drew ?_ | refine blk_alloc ?_ _)); refine blk_far ?_ NB389_403.out _; (with_reducible repeat (first | refine blk_drewN ?_ _ | refine blk_drew ?_ | refine blk_alloc ?_ _)); exact BK389.out) hb); have n1_ := Aside0.mk (blk_below (g := gb403) (o := .cells #[.int .i64 ((rd_T57 l0_2 x7_5).f0), .int .i64 ((rd_T57 l0_2 x7_5).f1.f0), .int .i64 ((rd_T57 l0_2 x7_5).f1.f1), .int .i64 ((rd_T57 l0_2 x7_5).f2.f0), .int .i64 ((rd_T57 l0_2 x7_5).f2.f1)] 57 (0, 0)) (by (with_reducible repeat (first | refine blk_drewN ?_ _ | refine blk_drew ?_ | refine blk_alloc ?_ _)); refine blk_put (cs := #[.int .i64 ((rd_T57 l0_2 x7_5).f0), .int .i64 ((rd_T57 l0_2 x7_5).f1.f0), .int .i64 ((rd_T57 l0_2 x7_5).f1.f1), .int .i64 ((rd_T57 l0_2 x7_5).f2.f0), .int .i64 0]) ?_ 4 _ rfl; (with_reducible repeat (first | refine blk_drewN ?_ _ | refine blk_drew ?_ | refine blk_alloc ?_ _)); refine blk_put (cs := #[.int .i64 ((rd_T57 l0_2 x7_5).f0), .int .i64 ((rd_T57 l0_2 x7_5).f1.f0), .int .i64 ((rd_T57 l0_2 x7_5).f1.f1), .int .i64 0, .int .i64 0]) ?_ 3 _ rfl; (with_reducible repeat (first | refine blk_drewN ?_ _ | refine blk_drew ?_ | refine blk_alloc ?_ _)); refine blk_put (cs := #[.int .i64 ((rd_T57 l0_2 x7_5).f0), .int .i64 ((rd_T57 l0_2 x7_5).f1.f0), .int .i64 0, .int .i64 0, .int .i64 0]) ?_ 2 _ rfl; (with_reducible repeat (first | refine blk_drewN ?_ _ | refine blk_drew ?_ | refine blk_alloc ?_ _)); refine blk_put (cs := #[.int .i64 ((rd_T57 l0_2 x7_5).f0), .int .i64 0, .int .i64 0, .int .i64 0, .int .i64 0]) ?_ 1 _ rfl; (with_reducible repeat (first | refine blk_drewN ?_ _ | refine blk_drew ?_ | refine blk_alloc ?_ _)); refine blk_put (cs := #[.int .i64 0, .int .i64 0, .int .i64 0, .int .i64 0, .int .i64 0]) ?_ 0 _ rfl; (with_reducible repeat (first | refine blk_drewN ?_ _ | refine blk_drew ?_ | refine blk_alloc ?_ _)); exact BK403.out) hb); have n2_ := Aside0.mk (below_step (by repeat (first | (with_reducible first | exact HB.out | apply below_alloc | apply pw_below_drewN | apply below_drew1 | refine below_set ?_ GE389.out | refine below_set ?_ GE403.out) | exact HB.out)) hb); clear BK389; clear BK403; clear HB; have BK389 := n0_; have BK403 := n1_; have HB := n2_; clear n0_ n1_ n2_; (try clear hb); (try clear hb2); (try clear hk); (try clear hi); have hcz84_0 : w83.cell? ⟨gb403, 0, none⟩ = some (.int .i64 ((rd_T57 l0_2 x7_5).f0)) := (blk_cell BK403.out 0).trans rfl; have hcz84_1 : w83.cell? ⟨gb403, 1, none⟩ = some (.int .i64 ((rd_T57 l0_2 x7_5).f1.f0)) := (blk_cell BK403.out 1).trans rfl; have hcz84_2 : w83.cell? ⟨gb403, 2, none⟩ = some (.int .i64 ((rd_T57 l0_2 x7_5).f1.f1)) := (blk_cell BK403.out 2).trans rfl; have hcz84_3 : w83.cell? ⟨gb403, 3, none⟩ = some (.int .i64 ((rd_T57 l0_2 x7_5).f2.f0)) := (blk_cell BK403.out 3).trans rfl; have hcz84_4 : w83.cell? ⟨gb403, 4, none⟩ = some (.int .i64 ((rd_T57 l0_2 x7_5).f2.f1)) := (blk_cell BK403.out 4).trans rfl; have hfz84_0 := blk_frozen BK403.out 0; have hfz84_1 := blk_frozen BK403.out 1; have hfz84_2 := blk_frozen BK403.out 2; have hfz84_3 := blk_frozen BK403.out 3; have hfz84_4 := blk_frozen BK403.out 4) | (go_at_call 65; (with_reducible refine (wishbookref00_Proper.calls ((rd_T57 l0_2 x7_5).f2.f0) ((rd_T57 l0_2 x7_5).f2.f1) 0 50 t406 _ A77.out).mono ?_); rintro e w85 ⟨rfl, hb⟩; have n0_ := Aside0.mk (blk_below (g := gb389) (o := .cells #[.slice A0_0 l0_0.length c0_0, .slice A0_1 l0_1.length c0_1, .slice (some ad402) l0_2.length c0_2] 26 (0, 0)) (by (with_reducible repeat (first | refine blk_drewN ?_ _ | refine blk_drew ?_ | refine blk_alloc ?_ _)); exact BK389.out) hb); have n1_ := Aside0.mk (blk_below (g := gb403) (o := .cells #[.int .i64 ((rd_T57 l0_2 x7_5).f0), .int .i64 ((rd_T57 l0_2 x7_5).f1.f0), .int .i64 ((rd_T57 l0_2 x7_5).f1.f1), .int .i64 ((rd_T57 l0_2 x7_5).f2.f0), .int .i64 ((rd_T57 l0_2 x7_5).f2.f1)] 57 (0, 0)) (by (with_reducible repeat (first | refine blk_drewN ?_ _ | refine blk_drew ?_ | refine blk_alloc ?_ _)); exact BK403.out) hb); have n2_ := Aside0.mk (below_step (by repeat (first | (with_reducible first | exact HB.out | apply below_alloc | apply pw_below_drewN | apply below_drew1 | refine below_set ?_ GE389.out | refine below_set ?_ GE403.out) | exact HB.out)) hb); clear BK389; clear BK403; clear HB; have BK389 := n0_; have BK403 := n1_; have HB := n2_; clear n0_ n1_ n2_; (try clear hb); (try clear hb2); (try clear hk); (try clear hi)))
                                      go_roundg kj66
                                      case measure => have := HJ1.out; have := HJ20.out; have := HK3.out; have := HJ27.out; have := HK5.out; have := HJ66.out; omega
                                      case rel => exact ⟨(t406), (wrap64 (x7_5 + 1)), (by first | rfl | (simp; done) | (simp [*]; done)), (by first | rfl | (simp; done) | (simp [*]; done)), H', ⟨by have := HJ1.out; have := HJ20.out; have := HK3.out; have := HJ27.out; have := HK5.out; have := HJ66.out; omega⟩, ⟨by (with_reducible repeat (first | refine blk_drewN ?_ _ | refine blk_drew ?_ | refine blk_alloc ?_ _)); exact BK389.out⟩, ⟨by repeat (first | (with_reducible first | exact HB.out | apply below_alloc | apply pw_below_drewN | apply below_drew1 | refine below_set ?_ GE389.out | refine below_set ?_ GE403.out) | exact HB.out)⟩⟩
                                    · replace c76 := Bool.eq_false_iff.mpr c76
                                      subst c76
                                      have H1 : (wishbooklaw10_sound.l2 kj66 false (wrap64 (x7_5 + 1)) l0_0 l0_1 l0_2) = some r := by rw [if_neg (show ¬ (false = true) by decide)] at H; exact H
                                      clear H
                                      have H := H1
                                      clear H1
                                      have H' := Aside0.mk H
                                      clear H
                                      have hcz86_0 : wc.cell? ⟨gb389, 0, none⟩ = some (.slice A0_0 l0_0.length c0_0) := (blk_cell BK389.out 0).trans rfl
                                      have hcz86_1 : wc.cell? ⟨gb389, 1, none⟩ = some (.slice A0_1 l0_1.length c0_1) := (blk_cell BK389.out 1).trans rfl
                                      have hcz86_2 : wc.cell? ⟨gb389, 2, none⟩ = some (.slice A0_2 l0_2.length c0_2) := (blk_cell BK389.out 2).trans rfl
                                      have hfz86_0 := blk_frozen BK389.out 0
                                      have hfz86_1 := blk_frozen BK389.out 1
                                      have hfz86_2 := blk_frozen BK389.out 2
                                      have p402 : 0 ≤ (x7_5 : Int) := of_decide_eq_true (by first | (with_reducible assumption) | assumption)
                                      have q402 : x7_5 < (l0_2.length : Int) := of_decide_eq_true (by first | (with_reducible assumption) | assumption)
                                      obtain ⟨ad402, e402, hx402_0, hx402_1, hx402_2, hx402_3, hx402_4⟩ := at_T57 HR0_2.out x7_5 p402 q402
                                      cases e402
                                      replace hx402_0 := (HB.out.cell (World.block_lt_of_cell? w _ hx402_0)).trans hx402_0
                                      replace hx402_1 := (HB.out.cell (World.block_lt_of_cell? w _ hx402_1)).trans hx402_1
                                      replace hx402_2 := (HB.out.cell (World.block_lt_of_cell? w _ hx402_2)).trans hx402_2
                                      replace hx402_3 := (HB.out.cell (World.block_lt_of_cell? w _ hx402_3)).trans hx402_3
                                      replace hx402_4 := (HB.out.cell (World.block_lt_of_cell? w _ hx402_4)).trans hx402_4
                                      replace p402 := eq_true p402
                                      replace q402 := eq_true q402
                                      go_wp2_with (first | ((with_reducible refine gate_dst (N := 8) rfl ?_); (try (refine gate_guard (by rfl) ?_; dsimp only)); refine box_event ?hg (N := 8) ?hd (cs := #[.int .i64 0, .int .i64 0, .int .i64 0, .int .i64 0, .int .i64 0]) (t := 57) ?hr ?_; (case hd => rfl); (case hg => rfl); (case hr => first | (go_simp; done) | (go_simp; rfl)); intro gb403 hg w87 hbox hb; have n0_ := Aside0.mk (blk_below (g := gb389) (o := .cells #[.slice A0_0 l0_0.length c0_0, .slice A0_1 l0_1.length c0_1, .slice (some ad402) l0_2.length c0_2] 26 (0, 0)) (by (with_reducible repeat (first | refine blk_drewN ?_ _ | refine blk_drew ?_ | refine blk_alloc ?_ _)); exact BK389.out) hb); have n1_ := Aside0.mk (below_step (by repeat (first | (with_reducible first | exact HB.out | apply below_alloc | apply pw_below_drewN | apply below_drew1 | refine below_set ?_ GE389.out) | exact HB.out)) hb); have n2_ := Aside0.mk (hbox); have n3_ := Aside0.mk ((by rw [hg]; exact (below_size (by repeat (first | (with_reducible first | exact HB.out | apply below_alloc | apply pw_below_drewN | apply below_drew1 | refine below_set ?_ GE389.out) | exact HB.out))) : w.heap.size ≤ gb403)); have n4_ := Aside0.mk ((by rw [hg]; exact (below_size (by repeat (first | (with_reducible first | exact HB.out | apply below_alloc | apply pw_below_drewN | apply below_drew1 | refine below_set ?_ GE389.out) | exact HB.out))) : w.heap.size ≤ gb403)); have n5_ := Aside0.mk ((by rw [hg]; exact Nat.ne_of_lt (blk_lt (g := gb389) (o := .cells #[.slice A0_0 l0_0.length c0_0, .slice A0_1 l0_1.length c0_1, .slice (some ad402) l0_2.length c0_2] 26 (0, 0)) (by (with_reducible repeat (first | refine blk_drewN ?_ _ | refine blk_drew ?_ | refine blk_alloc ?_ _)); exact BK389.out)) : gb389 ≠ gb403)); have n6_ := Aside0.mk ((by rw [hg]; exact Nat.ne_of_gt (blk_lt (g := gb389) (o := .cells #[.slice A0_0 l0_0.length c0_0, .slice A0_1 l0_1.length c0_1, .slice (some ad402) l0_2.length c0_2] 26 (0, 0)) (by (with_reducible repeat (first | refine blk_drewN ?_ _ | refine blk_drew ?_ | refine blk_alloc ?_ _)); exact BK389.out)) : gb403 ≠ gb389)); clear BK389; clear HB; have BK389 := n0_; have HB := n1_; have BK403 := n2_; have GW403 := n3_; have GE403 := n4_; have NB389_403 := n5_; have NB403_389 := n6_; clear n0_ n1_ n2_ n3_ n4_ n5_ n6_; clear hb hbox hg; have hnb88 := NB403_389.out; have hnc88 := NB389_403.out; have hcz89_0 : w87.cell? ⟨gb403, 0, none⟩ = some (.int .i64 0) := (blk_cell BK403.out 0).trans rfl; have hcz89_1 : w87.cell? ⟨gb403, 1, none⟩ = some (.int .i64 0) := (blk_cell BK403.out 1).trans rfl; have hcz89_2 : w87.cell? ⟨gb403, 2, none⟩ = some (.int .i64 0) := (blk_cell BK403.out 2).trans rfl; have hcz89_3 : w87.cell? ⟨gb403, 3, none⟩ = some (.int .i64 0) := (blk_cell BK403.out 3).trans rfl; have hcz89_4 : w87.cell? ⟨gb403, 4, none⟩ = some (.int .i64 0) := (blk_cell BK403.out 4).trans rfl; have hfz89_0 := blk_frozen BK403.out 0; have hfz89_1 := blk_frozen BK403.out 1; have hfz89_2 := blk_frozen BK403.out 2; have hfz89_3 := blk_frozen BK403.out 3; have hfz89_4 := blk_frozen BK403.out 4; have hcz90_0 : w87.cell? ⟨gb389, 0, none⟩ = some (.slice A0_0 l0_0.length c0_0) := (blk_cell BK389.out 0).trans rfl; have hcz90_1 : w87.cell? ⟨gb389, 1, none⟩ = some (.slice A0_1 l0_1.length c0_1) := (blk_cell BK389.out 1).trans rfl; have hcz90_2 : w87.cell? ⟨gb389, 2, none⟩ = some (.slice (some ad402) l0_2.length c0_2) := (blk_cell BK389.out 2).trans rfl; have hfz90_0 := blk_frozen BK389.out 0; have hfz90_1 := blk_frozen BK389.out 1; have hfz90_2 := blk_frozen BK389.out 2) | ((with_reducible refine gate_callee (f := 34) rfl ?_); refine goesL_ (some 113) rfl rfl Tryd.func34 (by kernel_rfl) rfl #[.int .i64 ((rd_T57 l0_2 x7_5).f0), .int .i64 0, .int .i64 (wrap64 ((l0_0.length : Int) - 1))] rfl (by (try simp only [List.map_toArray, List.map_cons, List.map_nil]); first | done | rfl | (simp only [List.length_drop, List.length_take]; rfl)) ?_; (with_reducible refine (wishbookref00_Tween.calls ((rd_T57 l0_2 x7_5).f0) 0 (wrap64 ((l0_0.length : Int) - 1)) true _ A73.out).mono ?_); rintro e w' ⟨rfl, ⟨nd, rfl⟩⟩; refine ⟨_, rfl, ?_⟩) | (go_at_call 65; (with_reducible refine (wishbookref00_Proper.calls ((rd_T57 l0_2 x7_5).f1.f0) ((rd_T57 l0_2 x7_5).f1.f1) 1 100 false _ A75.out).mono ?_); rintro e w91 ⟨rfl, hb⟩; have n0_ := Aside0.mk (blk_below (g := gb389) (o := .cells #[.slice A0_0 l0_0.length c0_0, .slice A0_1 l0_1.length c0_1, .slice (some ad402) l0_2.length c0_2] 26 (0, 0)) (by (with_reducible repeat (first | refine blk_drewN ?_ _ | refine blk_drew ?_ | refine blk_alloc ?_ _)); refine blk_far ?_ NB389_403.out _; (with_reducible repeat (first | refine blk_drewN ?_ _ | refine blk_drew ?_ | refine blk_alloc ?_ _)); refine blk_far ?_ NB389_403.out _; (with_reducible repeat (first | refine blk_drewN ?_ _ | refine blk_drew ?_ | refine blk_alloc ?_ _)); refine blk_far ?_ NB389_403.out _; (with_reducible repeat (first | refine blk_drewN ?_ _ | refine blk_drew ?_ | refine blk_alloc ?_ _)); refine blk_far ?_ NB389_403.out _; (with_reducible repeat (first | refine blk_drewN ?_ _ | refine blk_drew ?_ | refine blk_alloc ?_ _)); refine blk_far ?_ NB389_403.out _; (with_reducible repeat (first | refine blk_drewN ?_ _ | refine blk_drew ?_ | refine blk_alloc ?_ _)); exact BK389.out) hb); have n1_ := Aside0.mk (blk_below (g := gb403) (o := .cells #[.int .i64 ((rd_T57 l0_2 x7_5).f0), .int .i64 ((rd_T57 l0_2 x7_5).f1.f0), .int .i64 ((rd_T57 l0_2 x7_5).f1.f1), .int .i64 ((rd_T57 l0_2 x7_5).f2.f0), .int .i64 ((rd_T57 l0_2 x7_5).f2.f1)] 57 (0, 0)) (by (with_reducible repeat (first | refine blk_drewN ?_ _ | refine blk_drew ?_ | refine blk_alloc ?_ _)); refine blk_put (cs := #[.int .i64 ((rd_T57 l0_2 x7_5).f0), .int .i64 ((rd_T57 l0_2 x7_5).f1.f0), .int .i64 ((rd_T57 l0_2 x7_5).f1.f1), .int .i64 ((rd_T57 l0_2 x7_5).f2.f0), .int .i64 0]) ?_ 4 _ rfl; (with_reducible repeat (first | refine blk_drewN ?_ _ | refine blk_drew ?_ | refine blk_alloc ?_ _)); refine blk_put (cs := #[.int .i64 ((rd_T57 l0_2 x7_5).f0), .int .i64 ((rd_T57 l0_2 x7_5).f1.f0), .int .i64 ((rd_T57 l0_2 x7_5).f1.f1), .int .i64 0, .int .i64 0]) ?_ 3 _ rfl; (with_reducible repeat (first | refine blk_drewN ?_ _ | refine blk_drew ?_ | refine blk_alloc ?_ _)); refine blk_put (cs := #[.int .i64 ((rd_T57 l0_2 x7_5).f0), .int .i64 ((rd_T57 l0_2 x7_5).f1.f0), .int .i64 0, .int .i64 0, .int .i64 0]) ?_ 2 _ rfl; (with_reducible repeat (first | refine blk_drewN ?_ _ | refine blk_drew ?_ | refine blk_alloc ?_ _)); refine blk_put (cs := #[.int .i64 ((rd_T57 l0_2 x7_5).f0), .int .i64 0, .int .i64 0, .int .i64 0, .int .i64 0]) ?_ 1 _ rfl; (with_reducible repeat (first | refine blk_drewN ?_ _ | refine blk_drew ?_ | refine blk_alloc ?_ _)); refine blk_put (cs := #[.int .i64 0, .int .i64 0, .int .i64 0, .int .i64 0, .int .i64 0]) ?_ 0 _ rfl; (with_reducible repeat (first | refine blk_drewN ?_ _ | refine blk_drew ?_ | refine blk_alloc ?_ _)); exact BK403.out) hb); have n2_ := Aside0.mk (below_step (by repeat (first | (with_reducible first | exact HB.out | apply below_alloc | apply pw_below_drewN | apply below_drew1 | refine below_set ?_ GE389.out | refine below_set ?_ GE403.out) | exact HB.out)) hb); clear BK389; clear BK403; clear HB; have BK389 := n0_; have BK403 := n1_; have HB := n2_; clear n0_ n1_ n2_; (try clear hb); (try clear hb2); (try clear hk); (try clear hi)))
                                      go_roundg kj66
                                      case measure => have := HJ1.out; have := HJ20.out; have := HK3.out; have := HJ27.out; have := HK5.out; have := HJ66.out; omega
                                      case rel => exact ⟨(false), (wrap64 (x7_5 + 1)), (by first | rfl | (simp; done) | (simp [*]; done)), (by first | rfl | (simp; done) | (simp [*]; done)), H', ⟨by have := HJ1.out; have := HJ20.out; have := HK3.out; have := HJ27.out; have := HK5.out; have := HJ66.out; omega⟩, ⟨by (with_reducible repeat (first | refine blk_drewN ?_ _ | refine blk_drew ?_ | refine blk_alloc ?_ _)); exact BK389.out⟩, ⟨by repeat (first | (with_reducible first | exact HB.out | apply below_alloc | apply pw_below_drewN | apply below_drew1 | refine below_set ?_ GE389.out | refine below_set ?_ GE403.out) | exact HB.out)⟩⟩
                                  · replace c74 := Bool.eq_false_iff.mpr c74
                                    subst c74
                                    have H1 : (wishbooklaw10_sound.l2 kj66 false (wrap64 (x7_5 + 1)) l0_0 l0_1 l0_2) = some r := by rw [if_neg (show ¬ (false = true) by decide)] at H; exact H
                                    clear H
                                    have H := H1
                                    clear H1
                                    have H' := Aside0.mk H
                                    clear H
                                    have hcz92_0 : wc.cell? ⟨gb389, 0, none⟩ = some (.slice A0_0 l0_0.length c0_0) := (blk_cell BK389.out 0).trans rfl
                                    have hcz92_1 : wc.cell? ⟨gb389, 1, none⟩ = some (.slice A0_1 l0_1.length c0_1) := (blk_cell BK389.out 1).trans rfl
                                    have hcz92_2 : wc.cell? ⟨gb389, 2, none⟩ = some (.slice A0_2 l0_2.length c0_2) := (blk_cell BK389.out 2).trans rfl
                                    have hfz92_0 := blk_frozen BK389.out 0
                                    have hfz92_1 := blk_frozen BK389.out 1
                                    have hfz92_2 := blk_frozen BK389.out 2
                                    have p402 : 0 ≤ (x7_5 : Int) := of_decide_eq_true (by first | (with_reducible assumption) | assumption)
                                    have q402 : x7_5 < (l0_2.length : Int) := of_decide_eq_true (by first | (with_reducible assumption) | assumption)
                                    obtain ⟨ad402, e402, hx402_0, hx402_1, hx402_2, hx402_3, hx402_4⟩ := at_T57 HR0_2.out x7_5 p402 q402
                                    cases e402
                                    replace hx402_0 := (HB.out.cell (World.block_lt_of_cell? w _ hx402_0)).trans hx402_0
                                    replace hx402_1 := (HB.out.cell (World.block_lt_of_cell? w _ hx402_1)).trans hx402_1
                                    replace hx402_2 := (HB.out.cell (World.block_lt_of_cell? w _ hx402_2)).trans hx402_2
                                    replace hx402_3 := (HB.out.cell (World.block_lt_of_cell? w _ hx402_3)).trans hx402_3
                                    replace hx402_4 := (HB.out.cell (World.block_lt_of_cell? w _ hx402_4)).trans hx402_4
                                    replace p402 := eq_true p402
                                    replace q402 := eq_true q402
                                    go_wp2_with (first | ((with_reducible refine gate_dst (N := 8) rfl ?_); (try (refine gate_guard (by rfl) ?_; dsimp only)); refine box_event ?hg (N := 8) ?hd (cs := #[.int .i64 0, .int .i64 0, .int .i64 0, .int .i64 0, .int .i64 0]) (t := 57) ?hr ?_; (case hd => rfl); (case hg => rfl); (case hr => first | (go_simp; done) | (go_simp; rfl)); intro gb403 hg w93 hbox hb; have n0_ := Aside0.mk (blk_below (g := gb389) (o := .cells #[.slice A0_0 l0_0.length c0_0, .slice A0_1 l0_1.length c0_1, .slice (some ad402) l0_2.length c0_2] 26 (0, 0)) (by (with_reducible repeat (first | refine blk_drewN ?_ _ | refine blk_drew ?_ | refine blk_alloc ?_ _)); exact BK389.out) hb); have n1_ := Aside0.mk (below_step (by repeat (first | (with_reducible first | exact HB.out | apply below_alloc | apply pw_below_drewN | apply below_drew1 | refine below_set ?_ GE389.out) | exact HB.out)) hb); have n2_ := Aside0.mk (hbox); have n3_ := Aside0.mk ((by rw [hg]; exact (below_size (by repeat (first | (with_reducible first | exact HB.out | apply below_alloc | apply pw_below_drewN | apply below_drew1 | refine below_set ?_ GE389.out) | exact HB.out))) : w.heap.size ≤ gb403)); have n4_ := Aside0.mk ((by rw [hg]; exact (below_size (by repeat (first | (with_reducible first | exact HB.out | apply below_alloc | apply pw_below_drewN | apply below_drew1 | refine below_set ?_ GE389.out) | exact HB.out))) : w.heap.size ≤ gb403)); have n5_ := Aside0.mk ((by rw [hg]; exact Nat.ne_of_lt (blk_lt (g := gb389) (o := .cells #[.slice A0_0 l0_0.length c0_0, .slice A0_1 l0_1.length c0_1, .slice (some ad402) l0_2.length c0_2] 26 (0, 0)) (by (with_reducible repeat (first | refine blk_drewN ?_ _ | refine blk_drew ?_ | refine blk_alloc ?_ _)); exact BK389.out)) : gb389 ≠ gb403)); have n6_ := Aside0.mk ((by rw [hg]; exact Nat.ne_of_gt (blk_lt (g := gb389) (o := .cells #[.slice A0_0 l0_0.length c0_0, .slice A0_1 l0_1.length c0_1, .slice (some ad402) l0_2.length c0_2] 26 (0, 0)) (by (with_reducible repeat (first | refine blk_drewN ?_ _ | refine blk_drew ?_ | refine blk_alloc ?_ _)); exact BK389.out)) : gb403 ≠ gb389)); clear BK389; clear HB; have BK389 := n0_; have HB := n1_; have BK403 := n2_; have GW403 := n3_; have GE403 := n4_; have NB389_403 := n5_; have NB403_389 := n6_; clear n0_ n1_ n2_ n3_ n4_ n5_ n6_; clear hb hbox hg; have hnb94 := NB403_389.out; have hnc94 := NB389_403.out; have hcz95_0 : w93.cell? ⟨gb403, 0, none⟩ = some (.int .i64 0) := (blk_cell BK403.out 0).trans rfl; have hcz95_1 : w93.cell? ⟨gb403, 1, none⟩ = some (.int .i64 0) := (blk_cell BK403.out 1).trans rfl; have hcz95_2 : w93.cell? ⟨gb403, 2, none⟩ = some (.int .i64 0) := (blk_cell BK403.out 2).trans rfl; have hcz95_3 : w93.cell? ⟨gb403, 3, none⟩ = some (.int .i64 0) := (blk_cell BK403.out 3).trans rfl; have hcz95_4 : w93.cell? ⟨gb403, 4, none⟩ = some (.int .i64 0) := (blk_cell BK403.out 4).trans rfl; have hfz95_0 := blk_frozen BK403.out 0; have hfz95_1 := blk_frozen BK403.out 1; have hfz95_2 := blk_frozen BK403.out 2; have hfz95_3 := blk_frozen BK403.out 3; have hfz95_4 := blk_frozen BK403.out 4; have hcz96_0 : w93.cell? ⟨gb389, 0, none⟩ = some (.slice A0_0 l0_0.length c0_0) := (blk_cell BK389.out 0).trans rfl; have hcz96_1 : w93.cell? ⟨gb389, 1, none⟩ = some (.slice A0_1 l0_1.length c0_1) := (blk_cell BK389.out 1).trans rfl; have hcz96_2 : w93.cell? ⟨gb389, 2, none⟩ = some (.slice (some ad402) l0_2.length c0_2) := (blk_cell BK389.out 2).trans rfl; have hfz96_0 := blk_frozen BK389.out 0; have hfz96_1 := blk_frozen BK389.out 1; have hfz96_2 := blk_frozen BK389.out 2) | ((with_reducible refine gate_callee (f := 34) rfl ?_); refine goesL_ (some 113) rfl rfl Tryd.func34 (by kernel_rfl) rfl #[.int .i64 ((rd_T57 l0_2 x7_5).f0), .int .i64 0, .int .i64 (wrap64 ((l0_0.length : Int) - 1))] rfl (by (try simp only [List.map_toArray, List.map_cons, List.map_nil]); first | done | rfl | (simp only [List.length_drop, List.length_take]; rfl)) ?_; (with_reducible refine (wishbookref00_Tween.calls ((rd_T57 l0_2 x7_5).f0) 0 (wrap64 ((l0_0.length : Int) - 1)) false _ A73.out).mono ?_); rintro e w' ⟨rfl, ⟨nd, rfl⟩⟩; refine ⟨_, rfl, ?_⟩))
                                    go_roundg kj66
                                    case measure => have := HJ1.out; have := HJ20.out; have := HK3.out; have := HJ27.out; have := HK5.out; have := HJ66.out; omega
                                    case rel => exact ⟨(false), (wrap64 (x7_5 + 1)), (by first | rfl | (simp; done) | (simp [*]; done)), (by first | rfl | (simp; done) | (simp [*]; done)), H', ⟨by have := HJ1.out; have := HJ20.out; have := HK3.out; have := HJ27.out; have := HK5.out; have := HJ66.out; omega⟩, ⟨by (with_reducible repeat (first | refine blk_drewN ?_ _ | refine blk_drew ?_ | refine blk_alloc ?_ _)); refine blk_far ?_ NB389_403.out _; (with_reducible repeat (first | refine blk_drewN ?_ _ | refine blk_drew ?_ | refine blk_alloc ?_ _)); refine blk_far ?_ NB389_403.out _; (with_reducible repeat (first | refine blk_drewN ?_ _ | refine blk_drew ?_ | refine blk_alloc ?_ _)); refine blk_far ?_ NB389_403.out _; (with_reducible repeat (first | refine blk_drewN ?_ _ | refine blk_drew ?_ | refine blk_alloc ?_ _)); refine blk_far ?_ NB389_403.out _; (with_reducible repeat (first | refine blk_drewN ?_ _ | refine blk_drew ?_ | refine blk_alloc ?_ _)); refine blk_far ?_ NB389_403.out _; (with_reducible repeat (first | refine blk_drewN ?_ _ | refine blk_drew ?_ | refine blk_alloc ?_ _)); exact BK389.out⟩, ⟨by repeat (first | (with_reducible first | exact HB.out | apply below_alloc | apply pw_below_drewN | apply below_drew1 | refine below_set ?_ GE389.out | refine below_set ?_ GE403.out) | exact HB.out)⟩⟩
                                · rw [if_neg c72] at H
                                  exact absurd H (by simp)
                              · rw [if_neg c71] at H
                                exact absurd H (by simp)
                            · replace c70 := Bool.eq_false_iff.mpr c70
                              subst c70
                              have H1 : (some x3_5) = some r := by rw [if_neg (show ¬ (false = true) by decide)] at H; exact H
                              clear H
                              have H := H1
                              clear H1
                              obtain rfl := Option.some.inj H
                              go_wp2
                              go_ret
                              exact ⟨by first | rfl | (simp [errW_none, errW_some] <;> rfl) | (simp [*, errW_none, errW_some] <;> rfl), by repeat (first | (with_reducible first | exact HB.out | apply below_alloc | apply pw_below_drewN | apply below_drew1 | refine below_set ?_ GE389.out) | exact HB.out)⟩
end Go.Proofs.YtegpepnmnlockaaDoor.PL
namespace Go.Proofs.YtegpepnmnlockaaDoor.PL
open Go.RowKit Go.Proofs.YtegpepnmnlockaaDoorW.PrintWords Go.Proofs.YtegpepnmnlockaaDoorW.PrintLast Go.Proofs.YtegpepnmnlockaaDoorW.PrintMore
set_option linter.unusedVariables false
set_option linter.unusedSimpArgs false
theorem tween_in {a lo hi : Int} (h1 : lo ≤ a) (h2 : a ≤ hi) : wishbookref00_Tween.f a lo hi = some true := by
  unfold wishbookref00_Tween.f
  rw [if_pos h1, decide_eq_true h2]
theorem proper_in {a b lo hi : Int} (h1 : lo ≤ a) (h2 : a ≤ b) (h3 : b ≤ hi) : wishbookref00_Proper.f a b lo hi = some true := by
  unfold wishbookref00_Proper.f
  rw [if_pos h1, if_pos h2, decide_eq_true h3]
section
variable (l0 : List Int) (l1 : List S47) (l2 : List S57)
theorem sound_dead : ∀ k, 10 ≤ k → wishbooklaw10_sound.j0 k false l0 l1 l2 = some false
  | k + 10, _ => by
    rw [wishbooklaw10_sound.j0, wishbooklaw10_sound.l0, if_neg (by decide), wishbooklaw10_sound.j2, wishbooklaw10_sound.l1, if_neg (by decide), wishbooklaw10_sound.j4, if_neg (by decide), wishbooklaw10_sound.l2, if_neg (by decide), wishbooklaw10_sound.j6, if_neg (by decide)]
theorem sound_l2 (hb : okB l0 l1 l2 = true) : ∀ (e i k : Nat), i + e = l2.length → 2 * e + 4 ≤ k → wishbooklaw10_sound.l2 k true i l0 l1 l2 = some true
  | 0, i, k + 2, hi, hk => by
    rw [wishbooklaw10_sound.l2, if_pos rfl, wishbooklaw10_sound.j6, if_neg (by simp; omega)]
  | e + 1, i, k + 2, hi, hk => by
    have ih := sound_l2 hb e (i + 1) k (by omega) (by omega)
    have f := okB_facts hb
    have x := okB_del hb (i := i) (by omega)
    unfold okDel at x
    rw [wishbooklaw10_sound.l2, if_pos rfl, wishbooklaw10_sound.j6, if_pos (decide_eq_true (by omega)), if_pos (by omega), if_pos (by omega), wrap_pred (by omega), tween_in (by omega) (by omega), Option.bind_some, if_pos rfl, proper_in (by omega) (by omega) (by omega), Option.bind_some, if_pos rfl, proper_in (by omega) (by omega) (by omega), Option.bind_some, wrap_succ (by omega)]
    exact ih
theorem sound_l1 (hb : okB l0 l1 l2 = true) : ∀ (e i k : Nat), i + e = l1.length → 2 * e + 30 ≤ k → wishbooklaw10_sound.l1 k true i l0 l1 l2 = some true
  | 0, i, k + 2, hi, hk => by
    have f := okB_facts hb
    rw [wishbooklaw10_sound.l1, if_pos rfl, wishbooklaw10_sound.j4, if_neg (by simp; omega)]
    exact sound_l2 l0 l1 l2 hb l2.length 0 k (by omega) (by omega)
  | e + 1, i, k + 2, hi, hk => by
    have ih := sound_l1 hb e (i + 1) k (by omega) (by omega)
    have f := okB_facts hb
    have x := okB_line hb (i := i) (by omega)
    unfold okLine at x
    rw [wishbooklaw10_sound.l1, if_pos rfl, wishbooklaw10_sound.j4, if_pos (decide_eq_true (by omega)), if_pos (by omega), if_pos (by omega), tween_in (by omega) (by omega), Option.bind_some, if_pos rfl, wrap_pred (by omega), tween_in (by omega) (by omega), Option.bind_some, if_pos rfl, tween_in (by omega) (by omega), Option.bind_some, if_pos rfl, tween_in (by omega) (by omega), Option.bind_some, if_pos rfl, tween_in (by omega) (by omega), Option.bind_some, wrap_succ (by omega)]
    exact ih
theorem sound_l0 (hb : okB l0 l1 l2 = true) : ∀ (e i k : Nat), i + e = l0.length → e + 60 ≤ k → wishbooklaw10_sound.l0 k true i l0 l1 l2 = some true
  | 0, i, k + 2, hi, hk => by
    have f := okB_facts hb
    rw [wishbooklaw10_sound.l0, if_pos rfl, if_neg (by omega), wishbooklaw10_sound.j2]
    exact sound_l1 l0 l1 l2 hb l1.length 0 k (by omega) (by omega)
  | e + 1, i, k + 1, hi, hk => by
    have ih := sound_l0 hb e (i + 1) k (by omega) (by omega)
    have f := okB_facts hb
    have x := rd_bds f.2.2.2.2.2.1 (by omega) (i : Nat)
    rw [wishbooklaw10_sound.l0, if_pos rfl, if_pos (by omega), if_pos (by omega), tween_in (by omega) (by omega), Option.bind_some, wrap_succ (by omega)]
    exact ih
theorem sound_f (hf : Few l0 l1 l2) (k : Nat) (hk : 100 ≤ k) : wishbooklaw10_sound.f k l0 l1 l2 = some (okB l0 l1 l2) := by
  unfold wishbooklaw10_sound.f lack_Check.f
  rw [if_pos hf, Option.bind_some]
  cases hb : okB l0 l1 l2 with
  | false =>
    rw [if_neg (show ¬ chkV false = 0 by decide)]
    exact sound_dead l0 l1 l2 k (by omega)
  | true =>
    have f := okB_facts hb
    obtain ⟨k, rfl⟩ : ∃ j, k = j + 1 := ⟨k - 1, by omega⟩
    rw [if_pos (show chkV true = 0 by decide), tween_in (by omega) (by omega), Option.bind_some, if_pos rfl, tween_in (by omega) (by omega), Option.bind_some, if_pos rfl, decide_eq_true (by omega), wishbooklaw10_sound.j0]
    exact sound_l0 l0 l1 l2 hb l0.length 0 k (by omega) (by omega)
end
end Go.Proofs.YtegpepnmnlockaaDoor.PL

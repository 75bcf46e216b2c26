/- Part 3 of a proof: what the last text rests on. -/
import Derived.Test.YtegpepnmnlockaaDoorXLackSurely2
namespace Go.Proofs.YtegpepnmnlockaaDoor.PL
open Go.RowKit Go.Proofs.YtegpepnmnlockaaDoorW.PrintWords Go.Proofs.YtegpepnmnlockaaDoorW.PrintLast Go.Proofs.YtegpepnmnlockaaDoorW.PrintMore
attribute [local go_sem] max2_int min2_int max_two min_two max_three min_three max_four min_four   -- for this text's walks alone
set_option linter.unusedVariables false
set_option linter.unusedSimpArgs false
mutual
def wishbooklaw10_sound.j0 : Nat → Bool → List Int → List (S47) → List (S57) → Option (Bool)
  | 0, _, _, _, _ => none
  | k + 1, x3, x390000, x390001, x390002 => wishbooklaw10_sound.l0 k x3 0 x390000 x390001 x390002
def wishbooklaw10_sound.j2 : Nat → Bool → List Int → List (S47) → List (S57) → Option (Bool)
  | 0, _, _, _, _ => none
  | k + 1, x3, x390000, x390001, x390002 => wishbooklaw10_sound.l1 k x3 0 x390000 x390001 x390002
def wishbooklaw10_sound.l1 : Nat → Bool → Int → List Int → List (S47) → List (S57) → Option (Bool)
  | 0, _, _, _, _, _ => none
  | k + 1, x3, x5, x390000, x390001, x390002 => if x3 = true then (wishbooklaw10_sound.j4 k x3 x5 (decide (x5 < (x390001.length : Int))) x390000 x390001 x390002) else (wishbooklaw10_sound.j4 k x3 x5 false x390000 x390001 x390002)
def wishbooklaw10_sound.j4 : Nat → Bool → Int → Bool → List Int → List (S47) → List (S57) → Option (Bool)
  | 0, _, _, _, _, _, _ => none
  | k + 1, x3, x5, x53, x390000, x390001, x390002 => if x53 = true then (if 0 ≤ x5 then (if x5 < (x390001.length : Int) then ((wishbookref00_Tween.f ((rd_T47 x390001 x5).f0) 0 9).bind fun t397 => (if t397 = true then ((wishbookref00_Tween.f ((rd_T47 x390001 x5).f1) 0 (wrap64 ((x390000.length : Int) - 1))).bind fun t398 => (if t398 = true then ((wishbookref00_Tween.f ((rd_T47 x390001 x5).f2) 1 20).bind fun t399 => (if t399 = true then ((wishbookref00_Tween.f ((rd_T47 x390001 x5).f3) 0 100).bind fun t400 => (if t400 = true then ((wishbookref00_Tween.f ((rd_T47 x390001 x5).f4) (-1) (wrap64 ((x390000.length : Int) - 1))).bind fun t401 => (wishbooklaw10_sound.l1 k t401 (wrap64 (x5 + 1)) x390000 x390001 x390002)) else (wishbooklaw10_sound.l1 k false (wrap64 (x5 + 1)) x390000 x390001 x390002))) else (wishbooklaw10_sound.l1 k false (wrap64 (x5 + 1)) x390000 x390001 x390002))) else (wishbooklaw10_sound.l1 k false (wrap64 (x5 + 1)) x390000 x390001 x390002))) else (wishbooklaw10_sound.l1 k false (wrap64 (x5 + 1)) x390000 x390001 x390002))) else (none)) else (none)) else (wishbooklaw10_sound.l2 k x3 0 x390000 x390001 x390002)
def wishbooklaw10_sound.l2 : Nat → Bool → Int → List Int → List (S47) → List (S57) → Option (Bool)
  | 0, _, _, _, _, _ => none
  | k + 1, x3, x7, x390000, x390001, x390002 => if x3 = true then (wishbooklaw10_sound.j6 k x3 x7 (decide (x7 < (x390002.length : Int))) x390000 x390001 x390002) else (wishbooklaw10_sound.j6 k x3 x7 false x390000 x390001 x390002)
def wishbooklaw10_sound.j6 : Nat → Bool → Int → Bool → List Int → List (S47) → List (S57) → Option (Bool)
  | 0, _, _, _, _, _, _ => none
  | k + 1, x3, x7, x99, x390000, x390001, x390002 => if x99 = true then (if 0 ≤ x7 then (if x7 < (x390002.length : Int) then ((wishbookref00_Tween.f ((rd_T57 x390002 x7).f0) 0 (wrap64 ((x390000.length : Int) - 1))).bind fun t404 => (if t404 = true then ((wishbookref00_Proper.f ((rd_T57 x390002 x7).f1.f0) ((rd_T57 x390002 x7).f1.f1) 1 100).bind fun t405 => (if t405 = true then ((wishbookref00_Proper.f ((rd_T57 x390002 x7).f2.f0) ((rd_T57 x390002 x7).f2.f1) 0 50).bind fun t406 => (wishbooklaw10_sound.l2 k t406 (wrap64 (x7 + 1)) x390000 x390001 x390002)) else (wishbooklaw10_sound.l2 k false (wrap64 (x7 + 1)) x390000 x390001 x390002))) else (wishbooklaw10_sound.l2 k false (wrap64 (x7 + 1)) x390000 x390001 x390002))) else (none)) else (none)) else (some x3)
def wishbooklaw10_sound.l0 : Nat → Bool → Int → List Int → List (S47) → List (S57) → Option (Bool)
  | 0, _, _, _, _, _ => none
  | k + 1, x3, x4, x390000, x390001, x390002 => if x3 = true then (if x4 < (x390000.length : Int) then (if 0 ≤ x4 then ((wishbookref00_Tween.f (rd x390000 x4) 0 50).bind fun t394 => (wishbooklaw10_sound.l0 k t394 (wrap64 (x4 + 1)) x390000 x390001 x390002)) else (none)) else (wishbooklaw10_sound.j2 k x3 x390000 x390001 x390002)) else (wishbooklaw10_sound.j2 k x3 x390000 x390001 x390002)
end
def wishbooklaw10_sound.f (k : Nat) (l0_0 : List Int) (l0_1 : List (S47)) (l0_2 : List (S57)) : Option (Bool) := (lack_Check.f l0_0 l0_1 l0_2).bind fun t390 => (if t390 = 0 then ((wishbookref00_Tween.f (l0_0.length : Int) 1 5).bind fun t391 => (if t391 = true then ((wishbookref00_Tween.f (l0_1.length : Int) 1 10).bind fun t392 => (if t392 = true then (wishbooklaw10_sound.j0 k (decide ((l0_2.length : Int) ≤ 6)) l0_0 l0_1 l0_2) else (wishbooklaw10_sound.j0 k false l0_0 l0_1 l0_2))) else (wishbooklaw10_sound.j0 k false l0_0 l0_1 l0_2))) else (wishbooklaw10_sound.j0 k false l0_0 l0_1 l0_2))
theorem wishbooklaw10_sound.mono_l : ∀ k, (∀ y0 y1 y2 y3, LeO (wishbooklaw10_sound.j0 k y0 y1 y2 y3) (wishbooklaw10_sound.j0 (k + 1) y0 y1 y2 y3)) ∧ (∀ y0 y1 y2 y3, LeO (wishbooklaw10_sound.j2 k y0 y1 y2 y3) (wishbooklaw10_sound.j2 (k + 1) y0 y1 y2 y3)) ∧ (∀ y0 y1 y2 y3 y4, LeO (wishbooklaw10_sound.l1 k y0 y1 y2 y3 y4) (wishbooklaw10_sound.l1 (k + 1) y0 y1 y2 y3 y4)) ∧ (∀ y0 y1 y2 y3 y4 y5, LeO (wishbooklaw10_sound.j4 k y0 y1 y2 y3 y4 y5) (wishbooklaw10_sound.j4 (k + 1) y0 y1 y2 y3 y4 y5)) ∧ (∀ y0 y1 y2 y3 y4, LeO (wishbooklaw10_sound.l2 k y0 y1 y2 y3 y4) (wishbooklaw10_sound.l2 (k + 1) y0 y1 y2 y3 y4)) ∧ (∀ y0 y1 y2 y3 y4 y5, LeO (wishbooklaw10_sound.j6 k y0 y1 y2 y3 y4 y5) (wishbooklaw10_sound.j6 (k + 1) y0 y1 y2 y3 y4 y5)) ∧ (∀ y0 y1 y2 y3 y4, LeO (wishbooklaw10_sound.l0 k y0 y1 y2 y3 y4) (wishbooklaw10_sound.l0 (k + 1) y0 y1 y2 y3 y4))
  | 0 => ⟨fun _ _ _ _ r h => by simp [wishbooklaw10_sound.j0] at h, fun _ _ _ _ r h => by simp [wishbooklaw10_sound.j2] at h, fun _ _ _ _ _ r h => by simp [wishbooklaw10_sound.l1] at h, fun _ _ _ _ _ _ r h => by simp [wishbooklaw10_sound.j4] at h, fun _ _ _ _ _ r h => by simp [wishbooklaw10_sound.l2] at h, fun _ _ _ _ _ _ r h => by simp [wishbooklaw10_sound.j6] at h, fun _ _ _ _ _ r h => by simp [wishbooklaw10_sound.l0] at h⟩
  | k + 1 => by
    obtain ⟨ih0, ih1, ih2, ih3, ih4, ih5, ih6⟩ := wishbooklaw10_sound.mono_l k
    refine ⟨?_, ?_, ?_, ?_, ?_, ?_, ?_⟩
    · intro y0 y1 y2 y3
      unfold wishbooklaw10_sound.j0
      repeat' first
      | (with_reducible exact ih0 _ _ _ _)
      | (with_reducible exact ih1 _ _ _ _)
      | (with_reducible exact ih2 _ _ _ _ _)
      | (with_reducible exact ih3 _ _ _ _ _ _)
      | (with_reducible exact ih4 _ _ _ _ _)
      | (with_reducible exact ih5 _ _ _ _ _ _)
      | (with_reducible exact ih6 _ _ _ _ _)
      | (with_reducible exact LeO.refl _)
      | (with_reducible exact LeO.none _)
      | (with_reducible refine LeO.ite ?_ ?_)
      | (with_reducible refine LeO.bind ?_ (fun _ => ?_))
      | exact ih0 _ _ _ _
      | exact ih1 _ _ _ _
      | exact ih2 _ _ _ _ _
      | exact ih3 _ _ _ _ _ _
      | exact ih4 _ _ _ _ _
      | exact ih5 _ _ _ _ _ _
      | exact ih6 _ _ _ _ _
      | exact LeO.none _
      | refine LeO.ite ?_ ?_
      | refine LeO.bind ?_ (fun _ => ?_)
    · intro y0 y1 y2 y3
      unfold wishbooklaw10_sound.j2
      repeat' first
      | (with_reducible exact ih0 _ _ _ _)
      | (with_reducible exact ih1 _ _ _ _)
      | (with_reducible exact ih2 _ _ _ _ _)
      | (with_reducible exact ih3 _ _ _ _ _ _)
      | (with_reducible exact ih4 _ _ _ _ _)
      | (with_reducible exact ih5 _ _ _ _ _ _)
      | (with_reducible exact ih6 _ _ _ _ _)
      | (with_reducible exact LeO.refl _)
      | (with_reducible exact LeO.none _)
      | (with_reducible refine LeO.ite ?_ ?_)
      | (with_reducible refine LeO.bind ?_ (fun _ => ?_))
      | exact ih0 _ _ _ _
      | exact ih1 _ _ _ _
      | exact ih2 _ _ _ _ _
      | exact ih3 _ _ _ _ _ _
      | exact ih4 _ _ _ _ _
      | exact ih5 _ _ _ _ _ _
      | exact ih6 _ _ _ _ _
      | exact LeO.none _
      | refine LeO.ite ?_ ?_
      | refine LeO.bind ?_ (fun _ => ?_)
    · intro y0 y1 y2 y3 y4
      unfold wishbooklaw10_sound.l1
      repeat' first
      | (with_reducible exact ih0 _ _ _ _)
      | (with_reducible exact ih1 _ _ _ _)
      | (with_reducible exact ih2 _ _ _ _ _)
      | (with_reducible exact ih3 _ _ _ _ _ _)
      | (with_reducible exact ih4 _ _ _ _ _)
      | (with_reducible exact ih5 _ _ _ _ _ _)
      | (with_reducible exact ih6 _ _ _ _ _)
      | (with_reducible exact LeO.refl _)
      | (with_reducible exact LeO.none _)
      | (with_reducible refine LeO.ite ?_ ?_)
      | (with_reducible refine LeO.bind ?_ (fun _ => ?_))
      | exact ih0 _ _ _ _
      | exact ih1 _ _ _ _
      | exact ih2 _ _ _ _ _
      | exact ih3 _ _ _ _ _ _
      | exact ih4 _ _ _ _ _
      | exact ih5 _ _ _ _ _ _
      | exact ih6 _ _ _ _ _
      | exact LeO.none _
      | refine LeO.ite ?_ ?_
      | refine LeO.bind ?_ (fun _ => ?_)
    · intro y0 y1 y2 y3 y4 y5
      unfold wishbooklaw10_sound.j4
      repeat' first
      | (with_reducible exact ih0 _ _ _ _)
      | (with_reducible exact ih1 _ _ _ _)
      | (with_reducible exact ih2 _ _ _ _ _)
      | (with_reducible exact ih3 _ _ _ _ _ _)
      | (with_reducible exact ih4 _ _ _ _ _)
      | (with_reducible exact ih5 _ _ _ _ _ _)
      | (with_reducible exact ih6 _ _ _ _ _)
      | (with_reducible exact LeO.refl _)
      | (with_reducible exact LeO.none _)
      | (with_reducible refine LeO.ite ?_ ?_)
      | (with_reducible refine LeO.bind ?_ (fun _ => ?_))
      | exact ih0 _ _ _ _
      | exact ih1 _ _ _ _
      | exact ih2 _ _ _ _ _
      | exact ih3 _ _ _ _ _ _
      | exact ih4 _ _ _ _ _
      | exact ih5 _ _ _ _ _ _
      | exact ih6 _ _ _ _ _
      | exact LeO.none _
      | refine LeO.ite ?_ ?_
      | refine LeO.bind ?_ (fun _ => ?_)
    · intro y0 y1 y2 y3 y4
      unfold wishbooklaw10_sound.l2
      repeat' first
      | (with_reducible exact ih0 _ _ _ _)
      | (with_reducible exact ih1 _ _ _ _)
      | (with_reducible exact ih2 _ _ _ _ _)
      | (with_reducible exact ih3 _ _ _ _ _ _)
      | (with_reducible exact ih4 _ _ _ _ _)
      | (with_reducible exact ih5 _ _ _ _ _ _)
      | (with_reducible exact ih6 _ _ _ _ _)
      | (with_reducible exact LeO.refl _)
      | (with_reducible exact LeO.none _)
      | (with_reducible refine LeO.ite ?_ ?_)
      | (with_reducible refine LeO.bind ?_ (fun _ => ?_))
      | exact ih0 _ _ _ _
      | exact ih1 _ _ _ _
      | exact ih2 _ _ _ _ _
      | exact ih3 _ _ _ _ _ _
      | exact ih4 _ _ _ _ _
      | exact ih5 _ _ _ _ _ _
      | exact ih6 _ _ _ _ _
      | exact LeO.none _
      | refine LeO.ite ?_ ?_
      | refine LeO.bind ?_ (fun _ => ?_)
    · intro y0 y1 y2 y3 y4 y5
      unfold wishbooklaw10_sound.j6
      repeat' first
      | (with_reducible exact ih0 _ _ _ _)
      | (with_reducible exact ih1 _ _ _ _)
      | (with_reducible exact ih2 _ _ _ _ _)
      | (with_reducible exact ih3 _ _ _ _ _ _)
      | (with_reducible exact ih4 _ _ _ _ _)
      | (with_reducible exact ih5 _ _ _ _ _ _)
      | (with_reducible exact ih6 _ _ _ _ _)
      | (with_reducible exact LeO.refl _)
      | (with_reducible exact LeO.none _)
      | (with_reducible refine LeO.ite ?_ ?_)
      | (with_reducible refine LeO.bind ?_ (fun _ => ?_))
      | exact ih0 _ _ _ _
      | exact ih1 _ _ _ _
      | exact ih2 _ _ _ _ _
      | exact ih3 _ _ _ _ _ _
      | exact ih4 _ _ _ _ _
      | exact ih5 _ _ _ _ _ _
      | exact ih6 _ _ _ _ _
      | exact LeO.none _
      | refine LeO.ite ?_ ?_
      | refine LeO.bind ?_ (fun _ => ?_)
    · intro y0 y1 y2 y3 y4
      unfold wishbooklaw10_sound.l0
      repeat' first
      | (with_reducible exact ih0 _ _ _ _)
      | (with_reducible exact ih1 _ _ _ _)
      | (with_reducible exact ih2 _ _ _ _ _)
      | (with_reducible exact ih3 _ _ _ _ _ _)
      | (with_reducible exact ih4 _ _ _ _ _)
      | (with_reducible exact ih5 _ _ _ _ _ _)
      | (with_reducible exact ih6 _ _ _ _ _)
      | (with_reducible exact LeO.refl _)
      | (with_reducible exact LeO.none _)
      | (with_reducible refine LeO.ite ?_ ?_)
      | (with_reducible refine LeO.bind ?_ (fun _ => ?_))
      | exact ih0 _ _ _ _
      | exact ih1 _ _ _ _
      | exact ih2 _ _ _ _ _
      | exact ih3 _ _ _ _ _ _
      | exact ih4 _ _ _ _ _
      | exact ih5 _ _ _ _ _ _
      | exact ih6 _ _ _ _ _
      | exact LeO.none _
      | refine LeO.ite ?_ ?_
      | refine LeO.bind ?_ (fun _ => ?_)
theorem wishbooklaw10_sound.mono : ∀ a0 a1 a2 k, LeO (wishbooklaw10_sound.f k a0 a1 a2) (wishbooklaw10_sound.f (k + 1) a0 a1 a2) := by
  intro a0 a1 a2 k
  obtain ⟨ih0, ih1, ih2, ih3, ih4, ih5, ih6⟩ := wishbooklaw10_sound.mono_l k
  unfold wishbooklaw10_sound.f
  repeat' first
      | (with_reducible exact ih0 _ _ _ _)
      | (with_reducible exact ih1 _ _ _ _)
      | (with_reducible exact ih2 _ _ _ _ _)
      | (with_reducible exact ih3 _ _ _ _ _ _)
      | (with_reducible exact ih4 _ _ _ _ _)
      | (with_reducible exact ih5 _ _ _ _ _ _)
      | (with_reducible exact ih6 _ _ _ _ _)
      | (with_reducible exact LeO.refl _)
      | (with_reducible exact LeO.none _)
      | (with_reducible refine LeO.ite ?_ ?_)
      | (with_reducible refine LeO.bind ?_ (fun _ => ?_))
      | exact ih0 _ _ _ _
      | exact ih1 _ _ _ _
      | exact ih2 _ _ _ _ _
      | exact ih3 _ _ _ _ _ _
      | exact ih4 _ _ _ _ _
      | exact ih5 _ _ _ _ _ _
      | exact ih6 _ _ _ _ _
      | exact LeO.none _
      | refine LeO.ite ?_ ?_
      | refine LeO.bind ?_ (fun _ => ?_)
set_option maxHeartbeats 8000000 in
set_option maxRecDepth 100000 in
theorem wishbooklaw10_sound.calls (k : Nat) (A0_0 : Option Addr) (c0_0 : Nat) (l0_0 : List Int) (A0_1 : Option Addr) (c0_1 : Nat) (l0_1 : List (S47)) (A0_2 : Option Addr) (c0_2 : Nat) (l0_2 : List (S57)) (r : Bool) (w : World) (hr0_0 : Kd.C (Kd.int .i64) w A0_0 l0_0.length l0_0) (hc0_0 : l0_0.length ≤ c0_0) (hr0_1 : Kd.C k47 w A0_1 l0_1.length l0_1) (hc0_1 : l0_1.length ≤ c0_1) (hr0_2 : Kd.C k57 w A0_2 l0_2.length l0_2) (hc0_2 : l0_2.length ≤ c0_2) (h : wishbooklaw10_sound.f k l0_0 l0_1 l0_2 = some r) :
    Calls Tryd.prog 30 #[.agg #[.slice A0_0 l0_0.length c0_0, .slice A0_1 l0_1.length c0_1, .slice A0_2 l0_2.length c0_2]] w fun e w' => e = .returned (.bool r) ∧ Below w.heap.size w w' := by
  have hu26 := Tryd.underlying26
  have hu47 := Tryd.underlying47
  have hu57 := Tryd.underlying57
  have hu55 := Tryd.underlying55
  have HR0_0 := Aside0.mk hr0_0
  have HC0_0 := Aside0.mk hc0_0
  clear hr0_0 hc0_0
  have HR0_1 := Aside0.mk hr0_1
  have HC0_1 := Aside0.mk hc0_1
  clear hr0_1 hc0_1
  have HR0_2 := Aside0.mk hr0_2
  have HC0_2 := Aside0.mk hc0_2
  clear hr0_2 hc0_2
  have HB := Aside0.mk (Below.refl w.heap.size w)
  have H : ((lack_Check.f l0_0 l0_1 l0_2).bind fun t390 => (if t390 = 0 then ((wishbookref00_Tween.f (l0_0.length : Int) 1 5).bind fun t391 => (if t391 = true then ((wishbookref00_Tween.f (l0_1.length : Int) 1 10).bind fun t392 => (if t392 = true then (wishbooklaw10_sound.j0 k (decide ((l0_2.length : Int) ≤ 6)) l0_0 l0_1 l0_2) else (wishbooklaw10_sound.j0 k false l0_0 l0_1 l0_2))) else (wishbooklaw10_sound.j0 k false l0_0 l0_1 l0_2))) else (wishbooklaw10_sound.j0 k false l0_0 l0_1 l0_2))) = some r := h
  clear h
  have HC2 := Aside0.mk H
  clear H
  go_enter Tryd.func30, Tryd.ntmps30
  go_upto_region 1 with (first | ((with_reducible refine gate_dst (N := 1) rfl ?_); (try (refine gate_guard (by rfl) ?_; dsimp only)); refine box_event ?hg (N := 1) ?hd (cs := #[.slice A0_0 l0_0.length c0_0, .slice A0_1 l0_1.length c0_1, .slice A0_2 l0_2.length c0_2]) (t := 26) ?hr ?_; (case hd => rfl); (case hg => rfl); (case hr => first | (go_simp; done) | (go_simp; rfl)); intro gb389 hg w3 hbox hb; have n0_ := Aside0.mk (below_step (by repeat (first | (with_reducible first | exact HB.out | apply below_alloc | apply pw_below_drewN | apply below_drew1) | exact HB.out)) hb); have n1_ := Aside0.mk (hbox); have n2_ := Aside0.mk ((by rw [hg]; exact (below_size (by repeat (first | (with_reducible first | exact HB.out | apply below_alloc | apply pw_below_drewN | apply below_drew1) | exact HB.out))) : w.heap.size ≤ gb389)); have n3_ := Aside0.mk ((by rw [hg]; exact (below_size (by repeat (first | (with_reducible first | exact HB.out | apply below_alloc | apply pw_below_drewN | apply below_drew1) | exact HB.out))) : w.heap.size ≤ gb389)); clear HB; have HB := n0_; have BK389 := n1_; have GW389 := n2_; have GE389 := n3_; clear n0_ n1_ n2_ n3_; clear hb hbox hg))
  (try simp only [Act.put, List.setIfInBounds_toArray, List.set_cons_zero, List.set_cons_succ])
  go_cut [3] (fun v3 wc => ∃ (kq : Nat) (x3_1 : Bool), v3 = .bool x3_1 ∧ Aside0 (wishbooklaw10_sound.j0 kq x3_1 l0_0 l0_1 l0_2 = some r) ∧ Aside0 (kq ≤ k) ∧ Aside0 (wc.heap[gb389]? = some (.cells #[(.slice A0_0 l0_0.length c0_0), (.slice A0_1 l0_1.length c0_1), (.slice A0_2 l0_2.length c0_2)] 26 (0, 0))) ∧ Aside0 (Below w.heap.size w wc))
  case first =>
    have H := HC2.out
    clear HC2
    replace H := Option.bind_eq_some_iff.mp H
    obtain ⟨t390, A40, H⟩ := H
    replace H : (if t390 = 0 then ((wishbookref00_Tween.f (l0_0.length : Int) 1 5).bind fun t391 => (if t391 = true then ((wishbookref00_Tween.f (l0_1.length : Int) 1 10).bind fun t392 => (if t392 = true then (wishbooklaw10_sound.j0 k (decide ((l0_2.length : Int) ≤ 6)) l0_0 l0_1 l0_2) else (wishbooklaw10_sound.j0 k false l0_0 l0_1 l0_2))) else (wishbooklaw10_sound.j0 k false l0_0 l0_1 l0_2))) else (wishbooklaw10_sound.j0 k false l0_0 l0_1 l0_2)) = some r := H
    have A4 := Aside0.mk A40
    clear A40
    by_cases c5 : t390 = 0
    · rw [if_pos c5] at H
      have c5b0 : (t390 == 0) = true := beq_iff_eq.mpr c5
      have c5b1 : (t390 != 0) = false := bne_eq_false_iff_eq.mpr c5
      clear c5
      (first | rw [c5b0] | (simp only [i64_w, i32_w]; rw [c5b0]) | skip)
      replace H := Option.bind_eq_some_iff.mp H
      obtain ⟨t391, A60, H⟩ := H
      replace H : (if t391 = true then ((wishbookref00_Tween.f (l0_1.length : Int) 1 10).bind fun t392 => (if t392 = true then (wishbooklaw10_sound.j0 k (decide ((l0_2.length : Int) ≤ 6)) l0_0 l0_1 l0_2) else (wishbooklaw10_sound.j0 k false l0_0 l0_1 l0_2))) else (wishbooklaw10_sound.j0 k false l0_0 l0_1 l0_2)) = some r := H
      have A6 := Aside0.mk A60
      clear A60
      by_cases c7 : t391 = true
      · subst c7
        have H1 : ((wishbookref00_Tween.f (l0_1.length : Int) 1 10).bind fun t392 => (if t392 = true then (wishbooklaw10_sound.j0 k (decide ((l0_2.length : Int) ≤ 6)) l0_0 l0_1 l0_2) else (wishbooklaw10_sound.j0 k false l0_0 l0_1 l0_2))) = some r := by rw [if_pos rfl] at H; exact H
        clear H
        have H := H1
        clear H1
        replace H := Option.bind_eq_some_iff.mp H
        obtain ⟨t392, A80, H⟩ := H
        replace H : (if t392 = true then (wishbooklaw10_sound.j0 k (decide ((l0_2.length : Int) ≤ 6)) l0_0 l0_1 l0_2) else (wishbooklaw10_sound.j0 k false l0_0 l0_1 l0_2)) = some r := H
        have A8 := Aside0.mk A80
        clear A80
        by_cases c9 : t392 = true
        · subst c9
          have H1 : (wishbooklaw10_sound.j0 k (decide ((l0_2.length : Int) ≤ 6)) l0_0 l0_1 l0_2) = some r := by rw [if_pos rfl] at H; exact H
          clear H
          have H := H1
          clear H1
          have H' := Aside0.mk H
          clear H
          have hcz10_0 : w3.cell? ⟨gb389, 0, none⟩ = some (.slice A0_0 l0_0.length c0_0) := (blk_cell BK389.out 0).trans rfl
          have hcz10_1 : w3.cell? ⟨gb389, 1, none⟩ = some (.slice A0_1 l0_1.length c0_1) := (blk_cell BK389.out 1).trans rfl
          have hcz10_2 : w3.cell? ⟨gb389, 2, none⟩ = some (.slice A0_2 l0_2.length c0_2) := (blk_cell BK389.out 2).trans rfl
          have hfz10_0 := blk_frozen BK389.out 0
          have hfz10_1 := blk_frozen BK389.out 1
          have hfz10_2 := blk_frozen BK389.out 2
          go_wp2_with (first | ((with_reducible refine gate_callee (f := 44) rfl ?_); refine goesL_ (some 10) rfl rfl Tryd.func44 (by kernel_rfl) rfl #[.agg #[.slice A0_0 l0_0.length c0_0, .slice A0_1 l0_1.length c0_1, .slice A0_2 l0_2.length c0_2]] rfl (by (try simp only [List.map_toArray, List.map_cons, List.map_nil]); first | done | rfl | (simp only [List.length_drop, List.length_take]; rfl)) ?_; (with_reducible refine (lack_Check.calls _ _ l0_0 _ _ l0_1 _ _ l0_2 t390 _ ?side1 ?side2 ?side3 ?side4 ?side5 ?side6 A4.out).mono ?_); (case side1 => repeat (first | exact (Kd.C_below HR0_0.out HB.out) | (with_reducible refine Kd.C_alloc ?_ _) | (with_reducible refine Kd.C_drewN ?_ _) | (with_reducible refine Kd.C_drew ?_))); (case side2 => exact HC0_0.out); (case side3 => repeat (first | exact (Kd.C_below HR0_1.out HB.out) | (with_reducible refine Kd.C_alloc ?_ _) | (with_reducible refine Kd.C_drewN ?_ _) | (with_reducible refine Kd.C_drew ?_))); (case side4 => exact HC0_1.out); (case side5 => repeat (first | exact (Kd.C_below HR0_2.out HB.out) | (with_reducible refine Kd.C_alloc ?_ _) | (with_reducible refine Kd.C_drewN ?_ _) | (with_reducible refine Kd.C_drew ?_))); (case side6 => exact HC0_2.out); rintro e w11 ⟨rfl, hb⟩; refine ⟨_, rfl, ?_⟩; have n0_ := Aside0.mk (blk_below (g := gb389) (o := .cells #[.slice A0_0 l0_0.length c0_0, .slice A0_1 l0_1.length c0_1, .slice A0_2 l0_2.length c0_2] 26 (0, 0)) (by (with_reducible repeat (first | refine blk_drewN ?_ _ | refine blk_drew ?_ | refine blk_alloc ?_ _)); exact BK389.out) hb); have n1_ := Aside0.mk (below_step (by repeat (first | (with_reducible first | exact HB.out | apply below_alloc | apply pw_below_drewN | apply below_drew1 | refine below_set ?_ GE389.out) | exact HB.out)) hb); clear BK389; clear HB; have BK389 := n0_; have HB := n1_; clear n0_ n1_; (try clear hb); (try clear hb2); (try clear hk); (try clear hi); have hcz12_0 : w11.cell? ⟨gb389, 0, none⟩ = some (.slice A0_0 l0_0.length c0_0) := (blk_cell BK389.out 0).trans rfl; have hcz12_1 : w11.cell? ⟨gb389, 1, none⟩ = some (.slice A0_1 l0_1.length c0_1) := (blk_cell BK389.out 1).trans rfl; have hcz12_2 : w11.cell? ⟨gb389, 2, none⟩ = some (.slice A0_2 l0_2.length c0_2) := (blk_cell BK389.out 2).trans rfl; have hfz12_0 := blk_frozen BK389.out 0; have hfz12_1 := blk_frozen BK389.out 1; have hfz12_2 := blk_frozen BK389.out 2) | (go_at_call 34; (with_reducible refine (wishbookref00_Tween.calls (l0_0.length : Int) 1 5 true _ A6.out).mono ?_); rintro e w' ⟨rfl, ⟨nd, rfl⟩⟩) | (go_at_call 34; (with_reducible refine (wishbookref00_Tween.calls (l0_1.length : Int) 1 10 true _ A8.out).mono ?_); rintro e w' ⟨rfl, ⟨nd, rfl⟩⟩))
          go_meet
          case rel => exact ⟨_, (decide ((l0_2.length : Int) ≤ 6)), (by first | rfl | (simp; done) | (simp [*]; done)), H', ⟨by first | omega | exact Nat.le_refl _⟩, ⟨by (with_reducible repeat (first | refine blk_drewN ?_ _ | refine blk_drew ?_ | refine blk_alloc ?_ _)); exact BK389.out⟩, ⟨by repeat (first | (with_reducible first | exact HB.out | apply below_alloc | apply pw_below_drewN | apply below_drew1 | refine below_set ?_ GE389.out) | exact HB.out)⟩⟩
        · replace c9 := Bool.eq_false_iff.mpr c9
          subst c9
          have H1 : (wishbooklaw10_sound.j0 k false l0_0 l0_1 l0_2) = some r := by rw [if_neg (show ¬ (false = true) by decide)] at H; exact H
          clear H
          have H := H1
          clear H1
          have H' := Aside0.mk H
          clear H
          have hcz13_0 : w3.cell? ⟨gb389, 0, none⟩ = some (.slice A0_0 l0_0.length c0_0) := (blk_cell BK389.out 0).trans rfl
          have hcz13_1 : w3.cell? ⟨gb389, 1, none⟩ = some (.slice A0_1 l0_1.length c0_1) := (blk_cell BK389.out 1).trans rfl
          have hcz13_2 : w3.cell? ⟨gb389, 2, none⟩ = some (.slice A0_2 l0_2.length c0_2) := (blk_cell BK389.out 2).trans rfl
          have hfz13_0 := blk_frozen BK389.out 0
          have hfz13_1 := blk_frozen BK389.out 1
          have hfz13_2 := blk_frozen BK389.out 2
          go_wp2_with (first | ((with_reducible refine gate_callee (f := 44) rfl ?_); refine goesL_ (some 10) rfl rfl Tryd.func44 (by kernel_rfl) rfl #[.agg #[.slice A0_0 l0_0.length c0_0, .slice A0_1 l0_1.length c0_1, .slice A0_2 l0_2.length c0_2]] rfl (by (try simp only [List.map_toArray, List.map_cons, List.map_nil]); first | done | rfl | (simp only [List.length_drop, List.length_take]; rfl)) ?_; (with_reducible refine (lack_Check.calls _ _ l0_0 _ _ l0_1 _ _ l0_2 t390 _ ?side1 ?side2 ?side3 ?side4 ?side5 ?side6 A4.out).mono ?_); (case side1 => repeat (first | exact (Kd.C_below HR0_0.out HB.out) | (with_reducible refine Kd.C_alloc ?_ _) | (with_reducible refine Kd.C_drewN ?_ _) | (with_reducible refine Kd.C_drew ?_))); (case side2 => exact HC0_0.out); (case side3 => repeat (first | exact (Kd.C_below HR0_1.out HB.out) | (with_reducible refine Kd.C_alloc ?_ _) | (with_reducible refine Kd.C_drewN ?_ _) | (with_reducible refine Kd.C_drew ?_))); (case side4 => exact HC0_1.out); (case side5 => repeat (first | exact (Kd.C_below HR0_2.out HB.out) | (with_reducible refine Kd.C_alloc ?_ _) | (with_reducible refine Kd.C_drewN ?_ _) | (with_reducible refine Kd.C_drew ?_))); (case side6 => exact HC0_2.out); rintro e w14 ⟨rfl, hb⟩; refine ⟨_, rfl, ?_⟩; have n0_ := Aside0.mk (blk_below (g := gb389) (o := .cells #[.slice A0_0 l0_0.length c0_0, .slice A0_1 l0_1.length c0_1, .slice A0_2 l0_2.length c0_2] 26 (0, 0)) (by (with_reducible repeat (first | refine blk_drewN ?_ _ | refine blk_drew ?_ | refine blk_alloc ?_ _)); exact BK389.out) hb); have n1_ := Aside0.mk (below_step (by repeat (first | (with_reducible first | exact HB.out | apply below_alloc | apply pw_below_drewN | apply below_drew1 | refine below_set ?_ GE389.out) | exact HB.out)) hb); clear BK389; clear HB; have BK389 := n0_; have HB := n1_; clear n0_ n1_; (try clear hb); (try clear hb2); (try clear hk); (try clear hi); have hcz15_0 : w14.cell? ⟨gb389, 0, none⟩ = some (.slice A0_0 l0_0.length c0_0) := (blk_cell BK389.out 0).trans rfl; have hcz15_1 : w14.cell? ⟨gb389, 1, none⟩ = some (.slice A0_1 l0_1.length c0_1) := (blk_cell BK389.out 1).trans rfl; have hcz15_2 : w14.cell? ⟨gb389, 2, none⟩ = some (.slice A0_2 l0_2.length c0_2) := (blk_cell BK389.out 2).trans rfl; have hfz15_0 := blk_frozen BK389.out 0; have hfz15_1 := blk_frozen BK389.out 1; have hfz15_2 := blk_frozen BK389.out 2) | (go_at_call 34; (with_reducible refine (wishbookref00_Tween.calls (l0_0.length : Int) 1 5 true _ A6.out).mono ?_); rintro e w' ⟨rfl, ⟨nd, rfl⟩⟩) | (go_at_call 34; (with_reducible refine (wishbookref00_Tween.calls (l0_1.length : Int) 1 10 false _ A8.out).mono ?_); rintro e w' ⟨rfl, ⟨nd, rfl⟩⟩))
          go_meet
          case rel => exact ⟨_, (false), (by first | rfl | (simp; done) | (simp [*]; done)), H', ⟨by first | omega | exact Nat.le_refl _⟩, ⟨by (with_reducible repeat (first | refine blk_drewN ?_ _ | refine blk_drew ?_ | refine blk_alloc ?_ _)); exact BK389.out⟩, ⟨by repeat (first | (with_reducible first | exact HB.out | apply below_alloc | apply pw_below_drewN | apply below_drew1 | refine below_set ?_ GE389.out) | exact HB.out)⟩⟩
      · replace c7 := Bool.eq_false_iff.mpr c7
        subst c7
        have H1 : (wishbooklaw10_sound.j0 k false l0_0 l0_1 l0_2) = some r := by rw [if_neg (show ¬ (false = true) by decide)] at H; exact H
        clear H
        have H := H1
        clear H1
        have H' := Aside0.mk H
        clear H
        have hcz16_0 : w3.cell? ⟨gb389, 0, none⟩ = some (.slice A0_0 l0_0.length c0_0) := (blk_cell BK389.out 0).trans rfl
        have hcz16_1 : w3.cell? ⟨gb389, 1, none⟩ = some (.slice A0_1 l0_1.length c0_1) := (blk_cell BK389.out 1).trans rfl
        have hcz16_2 : w3.cell? ⟨gb389, 2, none⟩ = some (.slice A0_2 l0_2.length c0_2) := (blk_cell BK389.out 2).trans rfl
        have hfz16_0 := blk_frozen BK389.out 0
        have hfz16_1 := blk_frozen BK389.out 1
        have hfz16_2 := blk_frozen BK389.out 2
        go_wp2_with (first | ((with_reducible refine gate_callee (f := 44) rfl ?_); refine goesL_ (some 10) rfl rfl Tryd.func44 (by kernel_rfl) rfl #[.agg #[.slice A0_0 l0_0.length c0_0, .slice A0_1 l0_1.length c0_1, .slice A0_2 l0_2.length c0_2]] rfl (by (try simp only [List.map_toArray, List.map_cons, List.map_nil]); first | done | rfl | (simp only [List.length_drop, List.length_take]; rfl)) ?_; (with_reducible refine (lack_Check.calls _ _ l0_0 _ _ l0_1 _ _ l0_2 t390 _ ?side1 ?side2 ?side3 ?side4 ?side5 ?side6 A4.out).mono ?_); (case side1 => repeat (first | exact (Kd.C_below HR0_0.out HB.out) | (with_reducible refine Kd.C_alloc ?_ _) | (with_reducible refine Kd.C_drewN ?_ _) | (with_reducible refine Kd.C_drew ?_))); (case side2 => exact HC0_0.out); (case side3 => repeat (first | exact (Kd.C_below HR0_1.out HB.out) | (with_reducible refine Kd.C_alloc ?_ _) | (with_reducible refine Kd.C_drewN ?_ _) | (with_reducible refine Kd.C_drew ?_))); (case side4 => exact HC0_1.out); (case side5 => repeat (first | exact (Kd.C_below HR0_2.out HB.out) | (with_reducible refine Kd.C_alloc ?_ _) | (with_reducible refine Kd.C_drewN ?_ _) | (with_reducible refine Kd.C_drew ?_))); (case side6 => exact HC0_2.out); rintro e w17 ⟨rfl, hb⟩; refine ⟨_, rfl, ?_⟩; have n0_ := Aside0.mk (blk_below (g := gb389) (o := .cells #[.slice A0_0 l0_0.length c0_0, .slice A0_1 l0_1.length c0_1, .slice A0_2 l0_2.length c0_2] 26 (0, 0)) (by (with_reducible repeat (first | refine blk_drewN ?_ _ | refine blk_drew ?_ | refine blk_alloc ?_ _)); exact BK389.out) hb); have n1_ := Aside0.mk (below_step (by repeat (first | (with_reducible first | exact HB.out | apply below_alloc | apply pw_below_drewN | apply below_drew1 | refine below_set ?_ GE389.out) | exact HB.out)) hb); clear BK389; clear HB; have BK389 := n0_; have HB := n1_; clear n0_ n1_; (try clear hb); (try clear hb2); (try clear hk); (try clear hi); have hcz18_0 : w17.cell? ⟨gb389, 0, none⟩ = some (.slice A0_0 l0_0.length c0_0) := (blk_cell BK389.out 0).trans rfl; have hcz18_1 : w17.cell? ⟨gb389, 1, none⟩ = some (.slice A0_1 l0_1.length c0_1) := (blk_cell BK389.out 1).trans rfl; have hcz18_2 : w17.cell? ⟨gb389, 2, none⟩ = some (.slice A0_2 l0_2.length c0_2) := (blk_cell BK389.out 2).trans rfl; have hfz18_0 := blk_frozen BK389.out 0; have hfz18_1 := blk_frozen BK389.out 1; have hfz18_2 := blk_frozen BK389.out 2) | (go_at_call 34; (with_reducible refine (wishbookref00_Tween.calls (l0_0.length : Int) 1 5 false _ A6.out).mono ?_); rintro e w' ⟨rfl, ⟨nd, rfl⟩⟩))
        go_meet
        case rel => exact ⟨_, (false), (by first | rfl | (simp; done) | (simp [*]; done)), H', ⟨by first | omega | exact Nat.le_refl _⟩, ⟨by (with_reducible repeat (first | refine blk_drewN ?_ _ | refine blk_drew ?_ | refine blk_alloc ?_ _)); exact BK389.out⟩, ⟨by repeat (first | (with_reducible first | exact HB.out | apply below_alloc | apply pw_below_drewN | apply below_drew1 | refine below_set ?_ GE389.out) | exact HB.out)⟩⟩
    · rw [if_neg c5] at H
      have c5b0 : (t390 == 0) = false := beq_eq_false_iff_ne.mpr c5
      have c5b1 : (t390 != 0) = true := bne_iff_ne.mpr c5
      (first | rw [c5b0] | (simp only [i64_w, i32_w]; rw [c5b0]) | skip)
      have H' := Aside0.mk H
      clear H
      have hcz19_0 : w3.cell? ⟨gb389, 0, none⟩ = some (.slice A0_0 l0_0.length c0_0) := (blk_cell BK389.out 0).trans rfl
      have hcz19_1 : w3.cell? ⟨gb389, 1, none⟩ = some (.slice A0_1 l0_1.length c0_1) := (blk_cell BK389.out 1).trans rfl
      have hcz19_2 : w3.cell? ⟨gb389, 2, none⟩ = some (.slice A0_2 l0_2.length c0_2) := (blk_cell BK389.out 2).trans rfl
      have hfz19_0 := blk_frozen BK389.out 0
      have hfz19_1 := blk_frozen BK389.out 1
      have hfz19_2 := blk_frozen BK389.out 2
      go_wp2_with (first | ((with_reducible refine gate_callee (f := 44) rfl ?_); refine goesL_ (some 10) rfl rfl Tryd.func44 (by kernel_rfl) rfl #[.agg #[.slice A0_0 l0_0.length c0_0, .slice A0_1 l0_1.length c0_1, .slice A0_2 l0_2.length c0_2]] rfl (by (try simp only [List.map_toArray, List.map_cons, List.map_nil]); first | done | rfl | (simp only [List.length_drop, List.length_take]; rfl)) ?_; (with_reducible refine (lack_Check.calls _ _ l0_0 _ _ l0_1 _ _ l0_2 t390 _ ?side1 ?side2 ?side3 ?side4 ?side5 ?side6 A4.out).mono ?_); (case side1 => repeat (first | exact (Kd.C_below HR0_0.out HB.out) | (with_reducible refine Kd.C_alloc ?_ _) | (with_reducible refine Kd.C_drewN ?_ _) | (with_reducible refine Kd.C_drew ?_))); (case side2 => exact HC0_0.out); (case side3 => repeat (first | exact (Kd.C_below HR0_1.out HB.out) | (with_reducible refine Kd.C_alloc ?_ _) | (with_reducible refine Kd.C_drewN ?_ _) | (with_reducible refine Kd.C_drew ?_))); (case side4 => exact HC0_1.out); (case side5 => repeat (first | exact (Kd.C_below HR0_2.out HB.out) | (with_reducible refine Kd.C_alloc ?_ _) | (with_reducible refine Kd.C_drewN ?_ _) | (with_reducible refine Kd.C_drew ?_))); (case side6 => exact HC0_2.out); rintro e w20 ⟨rfl, hb⟩; refine ⟨_, rfl, ?_⟩; have n0_ := Aside0.mk (blk_below (g := gb389) (o := .cells #[.slice A0_0 l0_0.length c0_0, .slice A0_1 l0_1.length c0_1, .slice A0_2 l0_2.length c0_2] 26 (0, 0)) (by (with_reducible repeat (first | refine blk_drewN ?_ _ | refine blk_drew ?_ | refine blk_alloc ?_ _)); exact BK389.out) hb); have n1_ := Aside0.mk (below_step (by repeat (first | (with_reducible first | exact HB.out | apply below_alloc | apply pw_below_drewN | apply below_drew1 | refine below_set ?_ GE389.out) | exact HB.out)) hb); clear BK389; clear HB; have BK389 := n0_; have HB := n1_; clear n0_ n1_; (try clear hb); (try clear hb2); (try clear hk); (try clear hi)))
      go_meet
      case rel => exact ⟨_, (false), (by first | rfl | (simp; done) | (simp [*]; done)), H', ⟨by first | omega | exact Nat.le_refl _⟩, ⟨by (with_reducible repeat (first | refine blk_drewN ?_ _ | refine blk_drew ?_ | refine blk_alloc ?_ _)); exact BK389.out⟩, ⟨by repeat (first | (with_reducible first | exact HB.out | apply below_alloc | apply pw_below_drewN | apply below_drew1 | refine below_set ?_ GE389.out) | exact HB.out)⟩⟩
  case rest =>
    clear HC2
    try clear p2
    try clear c3
    try clear c4
    try clear c5
    try clear c5b0
    try clear c5b1
    try clear c7
    try clear c9
    try clear hcz10_0
    try clear hcz10_1
    try clear hcz10_2
    try clear hcz12_0
    try clear hcz12_1
    try clear hcz12_2
    try clear hcz13_0
    try clear hcz13_1
    try clear hcz13_2
    try clear hcz15_0
    try clear hcz15_1
    try clear hcz15_2
    try clear hcz16_0
    try clear hcz16_1
    try clear hcz16_2
    try clear hcz18_0
    try clear hcz18_1
    try clear hcz18_2
    try clear hcz19_0
    try clear hcz19_1
    try clear hcz19_2
    try clear hfz10_0
    try clear hfz10_1
    try clear hfz10_2
    try clear hfz12_0
    try clear hfz12_1
    try clear hfz12_2
    try clear hfz13_0
    try clear hfz13_1
    try clear hfz13_2
    try clear hfz15_0
    try clear hfz15_1
    try clear hfz15_2
    try clear hfz16_0
    try clear hfz16_1
    try clear hfz16_2
    try clear hfz18_0
    try clear hfz18_1
    try clear hfz18_2
    try clear hfz19_0
    try clear hfz19_1
    try clear hfz19_2
    obtain ⟨kq, x3_1, rfl, HA, HJ1, BK389, HB⟩ := hcut
    cases kq with
    | zero => exact absurd HA.out (by simp [wishbooklaw10_sound.j0])
    | succ kj1 =>
      have H := HA.out
      clear HA
      simp only [wishbooklaw10_sound.j0] at H
      have HC21 := Aside0.mk H
      clear H
      go_upto_block 0 with (fail)
      go_cut [3] (fun v3 wc => ∃ (kq : Nat) (x3_20 : Bool), v3 = .bool x3_20 ∧ Aside0 (wishbooklaw10_sound.j2 kq x3_20 l0_0 l0_1 l0_2 = some r) ∧ Aside0 (kq ≤ kj1) ∧ Aside0 (wc.heap[gb389]? = some (.cells #[(.slice A0_0 l0_0.length c0_0), (.slice A0_1 l0_1.length c0_1), (.slice A0_2 l0_2.length c0_2)] 26 (0, 0))) ∧ Aside0 (Below w.heap.size w wc))
      case first =>
        have H := HC21.out
        clear HC21
        have H' := Aside0.mk H
        clear H
        go_wp2
        go_loopg [3, 4] kj1 (fun kq v3 v4 w' => ∃ (x3_2 : Bool) (x4_2 : Int), v3 = .bool x3_2 ∧ v4 = .int .i64 x4_2 ∧ Aside0 (wishbooklaw10_sound.l0 kq x3_2 x4_2 l0_0 l0_1 l0_2 = some r) ∧ Aside0 (kq ≤ kj1) ∧ Aside0 (w'.heap[gb389]? = some (.cells #[(.slice A0_0 l0_0.length c0_0), (.slice A0_1 l0_1.length c0_1), (.slice A0_2 l0_2.length c0_2)] 26 (0, 0))) ∧ Aside0 (Below w.heap.size w w'))
        case atStart => exact ⟨(x3_1), (0), (by first | rfl | (simp; done) | (simp [*]; done)), (by first | rfl | (simp; done) | (simp [*]; done)), H', ⟨Nat.le_refl _⟩, ⟨by (with_reducible repeat (first | refine blk_drewN ?_ _ | refine blk_drew ?_ | refine blk_alloc ?_ _)); exact BK389.out⟩, ⟨by repeat (first | (with_reducible first | exact HB.out | apply below_alloc | apply pw_below_drewN | apply below_drew1 | refine below_set ?_ GE389.out) | exact HB.out)⟩⟩
        case round =>
          clear H'
          try clear p2
          try clear c3
          try clear c4
          try clear c5
          try clear c5b0
          try clear c5b1
          try clear c7
          try clear c9
          try clear hcz10_0
          try clear hcz10_1
          try clear hcz10_2
          try clear hcz12_0
          try clear hcz12_1
          try clear hcz12_2
          try clear hcz13_0
          try clear hcz13_1
          try clear hcz13_2
          try clear hcz15_0
          try clear hcz15_1
          try clear hcz15_2
          try clear hcz16_0
          try clear hcz16_1
          try clear hcz16_2
          try clear hcz18_0
          try clear hcz18_1
          try clear hcz18_2
          try clear hcz19_0
          try clear hcz19_1
          try clear hcz19_2
          try clear hfz10_0
          try clear hfz10_1
          try clear hfz10_2
          try clear hfz12_0
          try clear hfz12_1
          try clear hfz12_2
          try clear hfz13_0
          try clear hfz13_1
          try clear hfz13_2
          try clear hfz15_0
          try clear hfz15_1
          try clear hfz15_2
          try clear hfz16_0
          try clear hfz16_1
          try clear hfz16_2
          try clear hfz18_0
          try clear hfz18_1
          try clear hfz18_2
          try clear hfz19_0
          try clear hfz19_1
          try clear hfz19_2
          try clear p2
          obtain ⟨x3_2, x4_2, rfl, rfl, HA, HK2, BK389, HB⟩ := hrel
          cases gk with
          | zero => exact absurd HA.out (by simp [wishbooklaw10_sound.l0])
          | succ k2 =>
            have H := HA.out
            clear HA
            simp only [wishbooklaw10_sound.l0] at H
            by_cases c22 : x3_2 = true
            · subst c22
              have H1 : (if x4_2 < (l0_0.length : Int) then (if 0 ≤ x4_2 then ((wishbookref00_Tween.f (rd l0_0 x4_2) 0 50).bind fun t394 => (wishbooklaw10_sound.l0 k2 t394 (wrap64 (x4_2 + 1)) l0_0 l0_1 l0_2)) else (none)) else (wishbooklaw10_sound.j2 k2 true l0_0 l0_1 l0_2)) = some r := by rw [if_pos rfl] at H; exact H
              clear H
              have H := H1
              clear H1
              by_cases c23 : x4_2 < (l0_0.length : Int)
              · rw [if_pos c23] at H
                have c23b0 : decide (x4_2 < (l0_0.length : Int)) = true := decide_eq_true c23
                clear c23
                (first | rw [c23b0] | (simp only [i64_w, i32_w]; rw [c23b0]) | skip)
                by_cases c24 : 0 ≤ x4_2
                · rw [if_pos c24] at H
                  have c24b0 : decide (0 ≤ x4_2) = true := decide_eq_true c24
                  clear c24
                  replace H := Option.bind_eq_some_iff.mp H
                  obtain ⟨t394, A250, H⟩ := H
                  replace H : (wishbooklaw10_sound.l0 k2 t394 (wrap64 (x4_2 + 1)) l0_0 l0_1 l0_2) = some r := H
                  have A25 := Aside0.mk A250
                  clear A250
                  have H' := Aside0.mk H
                  clear H
                  have hcz26_0 : wr.cell? ⟨gb389, 0, none⟩ = some (.slice A0_0 l0_0.length c0_0) := (blk_cell BK389.out 0).trans rfl
                  have hcz26_1 : wr.cell? ⟨gb389, 1, none⟩ = some (.slice A0_1 l0_1.length c0_1) := (blk_cell BK389.out 1).trans rfl
                  have hcz26_2 : wr.cell? ⟨gb389, 2, none⟩ = some (.slice A0_2 l0_2.length c0_2) := (blk_cell BK389.out 2).trans rfl
                  have hfz26_0 := blk_frozen BK389.out 0
                  have hfz26_1 := blk_frozen BK389.out 1
                  have hfz26_2 := blk_frozen BK389.out 2
                  have p393 : 0 ≤ (x4_2 : Int) := of_decide_eq_true (by first | (with_reducible assumption) | assumption)
                  have q393 : x4_2 < (l0_0.length : Int) := of_decide_eq_true (by first | (with_reducible assumption) | assumption)
                  obtain ⟨ad393, e393, hx393_0⟩ := Kd.at_int HR0_0.out x4_2 p393 q393
                  cases e393
                  replace hx393_0 := (HB.out.cell (World.block_lt_of_cell? w _ hx393_0)).trans hx393_0
                  replace p393 := eq_true p393
                  replace q393 := eq_true q393
                  go_wp2_with (first | ((with_reducible refine gate_callee (f := 34) rfl ?_); refine goesL_ (some 45) rfl rfl Tryd.func34 (by kernel_rfl) rfl #[.int .i64 (rd l0_0 x4_2), .int .i64 0, .int .i64 50] rfl (by (try simp only [List.map_toArray, List.map_cons, List.map_nil]); first | done | rfl | (simp only [List.length_drop, List.length_take]; rfl)) ?_; (with_reducible refine (wishbookref00_Tween.calls (rd l0_0 x4_2) 0 50 t394 _ A25.out).mono ?_); rintro e w' ⟨rfl, ⟨nd, rfl⟩⟩; refine ⟨_, rfl, ?_⟩))
                  go_roundg k2
                  case measure => have := HJ1.out; have := HK2.out; omega
                  case rel => exact ⟨(t394), (wrap64 (x4_2 + 1)), (by first | rfl | (simp; done) | (simp [*]; done)), (by first | rfl | (simp; done) | (simp [*]; done)), H', ⟨by have := HJ1.out; have := HK2.out; omega⟩, ⟨by (with_reducible repeat (first | refine blk_drewN ?_ _ | refine blk_drew ?_ | refine blk_alloc ?_ _)); exact BK389.out⟩, ⟨by repeat (first | (with_reducible first | exact HB.out | apply below_alloc | apply pw_below_drewN | apply below_drew1 | refine below_set ?_ GE389.out) | exact HB.out)⟩⟩
                · rw [if_neg c24] at H
                  exact absurd H (by simp)
              · rw [if_neg c23] at H
                have c23b0 : decide (x4_2 < (l0_0.length : Int)) = false := decide_eq_false c23
                clear c23
                (first | rw [c23b0] | (simp only [i64_w, i32_w]; rw [c23b0]) | skip)
                have H' := Aside0.mk H
                clear H
                have hcz27_0 : wr.cell? ⟨gb389, 0, none⟩ = some (.slice A0_0 l0_0.length c0_0) := (blk_cell BK389.out 0).trans rfl
                have hcz27_1 : wr.cell? ⟨gb389, 1, none⟩ = some (.slice A0_1 l0_1.length c0_1) := (blk_cell BK389.out 1).trans rfl
                have hcz27_2 : wr.cell? ⟨gb389, 2, none⟩ = some (.slice A0_2 l0_2.length c0_2) := (blk_cell BK389.out 2).trans rfl
                have hfz27_0 := blk_frozen BK389.out 0
                have hfz27_1 := blk_frozen BK389.out 1
                have hfz27_2 := blk_frozen BK389.out 2
                go_wp2
                go_meet
                case rel => exact ⟨_, (true), (by first | rfl | (simp; done) | (simp [*]; done)), H', ⟨by have := HJ1.out; have := HK2.out; first | omega | exact Nat.le_refl _⟩, ⟨by (with_reducible repeat (first | refine blk_drewN ?_ _ | refine blk_drew ?_ | refine blk_alloc ?_ _)); exact BK389.out⟩, ⟨by repeat (first | (with_reducible first | exact HB.out | apply below_alloc | apply pw_below_drewN | apply below_drew1 | refine below_set ?_ GE389.out) | exact HB.out)⟩⟩
            · replace c22 := Bool.eq_false_iff.mpr c22
              subst c22
              have H1 : (wishbooklaw10_sound.j2 k2 false l0_0 l0_1 l0_2) = some r := by rw [if_neg (show ¬ (false = true) by decide)] at H; exact H
              clear H
              have H := H1
              clear H1
              have H' := Aside0.mk H
              clear H
              go_wp2
              go_meet
              case rel => exact ⟨_, (false), (by first | rfl | (simp; done) | (simp [*]; done)), H', ⟨by have := HJ1.out; have := HK2.out; first | omega | exact Nat.le_refl _⟩, ⟨by (with_reducible repeat (first | refine blk_drewN ?_ _ | refine blk_drew ?_ | refine blk_alloc ?_ _)); exact BK389.out⟩, ⟨by repeat (first | (with_reducible first | exact HB.out | apply below_alloc | apply pw_below_drewN | apply below_drew1 | refine below_set ?_ GE389.out) | exact HB.out)⟩⟩
      case rest =>
        clear HC21
        try clear c2
        try clear p2
        try clear c3
        try clear p3
        try clear q3
        try clear hx3
        try clear c4
        try clear c5
        try clear c5b0
        try clear c5b1
        try clear p6
        try clear c7
        try clear c9
        try clear c22
        try clear c23
        try clear c23b0
        try clear c24
        try clear c24b0
        try clear hcz10_0
        try clear hcz10_1
        try clear hcz10_2
        try clear hcz12_0
        try clear hcz12_1
        try clear hcz12_2
        try clear hcz13_0
        try clear hcz13_1
        try clear hcz13_2
        try clear hcz15_0
        try clear hcz15_1
        try clear hcz15_2
        try clear hcz16_0
        try clear hcz16_1
        try clear hcz16_2
        try clear hcz18_0
        try clear hcz18_1
        try clear hcz18_2
        try clear hcz19_0
        try clear hcz19_1
        try clear hcz19_2
        try clear hcz26_0
        try clear hcz26_1
        try clear hcz26_2
        try clear hcz27_0
        try clear hcz27_1
        try clear hcz27_2
        try clear hfz10_0
        try clear hfz10_1
        try clear hfz10_2
        try clear hfz12_0
        try clear hfz12_1
        try clear hfz12_2
        try clear hfz13_0
        try clear hfz13_1
        try clear hfz13_2
        try clear hfz15_0
        try clear hfz15_1
        try clear hfz15_2
        try clear hfz16_0
        try clear hfz16_1
        try clear hfz16_2
        try clear hfz18_0
        try clear hfz18_1
        try clear hfz18_2
        try clear hfz19_0
        try clear hfz19_1
        try clear hfz19_2
        try clear hfz26_0
        try clear hfz26_1
        try clear hfz26_2
        try clear hfz27_0
        try clear hfz27_1
        try clear hfz27_2
        try clear hx393_0
        try clear p2
        try clear p393
        try clear q393
        obtain ⟨kq, x3_20, rfl, HA, HJ20, BK389, HB⟩ := hcut
        cases kq with
        | zero => exact absurd HA.out (by simp [wishbooklaw10_sound.j2])
        | succ kj20 =>
          have H := HA.out
          clear HA
          simp only [wishbooklaw10_sound.j2] at H
          have H' := Aside0.mk H
          clear H
          go_wp2
          go_loopg [3, 5] kj20 (fun kq v3 v5 w' => ∃ (x3_3 : Bool) (x5_3 : Int), v3 = .bool x3_3 ∧ v5 = .int .i64 x5_3 ∧ Aside0 (wishbooklaw10_sound.l1 kq x3_3 x5_3 l0_0 l0_1 l0_2 = some r) ∧ Aside0 (kq ≤ kj20) ∧ Aside0 (w'.heap[gb389]? = some (.cells #[(.slice A0_0 l0_0.length c0_0), (.slice A0_1 l0_1.length c0_1), (.slice A0_2 l0_2.length c0_2)] 26 (0, 0))) ∧ Aside0 (Below w.heap.size w w'))
          case atStart => exact ⟨(x3_20), (0), (by first | rfl | (simp; done) | (simp [*]; done)), (by first | rfl | (simp; done) | (simp [*]; done)), H', ⟨Nat.le_refl _⟩, ⟨by (with_reducible repeat (first | refine blk_drewN ?_ _ | refine blk_drew ?_ | refine blk_alloc ?_ _)); exact BK389.out⟩, ⟨by repeat (first | (with_reducible first | exact HB.out | apply below_alloc | apply pw_below_drewN | apply below_drew1 | refine below_set ?_ GE389.out) | exact HB.out)⟩⟩
          case round =>
            clear H'
            try clear c2
            try clear p2
            try clear c3
            try clear p3
            try clear q3
            try clear hx3
            try clear c4
            try clear c5
            try clear c5b0
            try clear c5b1
            try clear p6
            try clear c7
            try clear c9
            try clear c22
            try clear c23
            try clear c23b0
            try clear c24
            try clear c24b0
            try clear hcz10_0
            try clear hcz10_1
            try clear hcz10_2
            try clear hcz12_0
            try clear hcz12_1
            try clear hcz12_2
            try clear hcz13_0
            try clear hcz13_1
            try clear hcz13_2
            try clear hcz15_0
            try clear hcz15_1
            try clear hcz15_2
            try clear hcz16_0
            try clear hcz16_1
            try clear hcz16_2
            try clear hcz18_0
            try clear hcz18_1
            try clear hcz18_2
            try clear hcz19_0
            try clear hcz19_1
            try clear hcz19_2
            try clear hcz26_0
            try clear hcz26_1
            try clear hcz26_2
            try clear hcz27_0
            try clear hcz27_1
            try clear hcz27_2
            try clear hfz10_0
            try clear hfz10_1
            try clear hfz10_2
            try clear hfz12_0
            try clear hfz12_1
            try clear hfz12_2
            try clear hfz13_0
            try clear hfz13_1
            try clear hfz13_2
            try clear hfz15_0
            try clear hfz15_1
            try clear hfz15_2
            try clear hfz16_0
            try clear hfz16_1
            try clear hfz16_2
            try clear hfz18_0
            try clear hfz18_1
            try clear hfz18_2
            try clear hfz19_0
            try clear hfz19_1
            try clear hfz19_2
            try clear hfz26_0
            try clear hfz26_1
            try clear hfz26_2
            try clear hfz27_0
            try clear hfz27_1
            try clear hfz27_2
            try clear hx393_0
            try clear p2
            try clear p3
            try clear p393
            try clear p6
            try clear q3
            try clear q393
            obtain ⟨x3_3, x5_3, rfl, rfl, HA, HK3, BK389, HB⟩ := hrel
            cases gk with
            | zero => exact absurd HA.out (by simp [wishbooklaw10_sound.l1])
            | succ k3 =>
              have H := HA.out
              clear HA
              simp only [wishbooklaw10_sound.l1] at H
              have HC28 := Aside0.mk H
              clear H
              go_upto_region 7 with (fail)
              go_cut [53] (fun v53 wc => ∃ (kq : Nat) (x53_27 : Bool), v53 = .bool x53_27 ∧ Aside0 (wishbooklaw10_sound.j4 kq x3_3 x5_3 x53_27 l0_0 l0_1 l0_2 = some r) ∧ Aside0 (kq ≤ k3) ∧ Aside0 (wc.heap[gb389]? = some (.cells #[(.slice A0_0 l0_0.length c0_0), (.slice A0_1 l0_1.length c0_1), (.slice A0_2 l0_2.length c0_2)] 26 (0, 0))) ∧ Aside0 (Below w.heap.size w wc))
              case first =>
                have H := HC28.out
                clear HC28
                by_cases c29 : x3_3 = true
                · subst c29
                  have H1 : (wishbooklaw10_sound.j4 k3 true x5_3 (decide (x5_3 < (l0_1.length : Int))) l0_0 l0_1 l0_2) = some r := by rw [if_pos rfl] at H; exact H
                  clear H
                  have H := H1
                  clear H1
                  have H' := Aside0.mk H
                  clear H
                  have hcz30_0 : wr.cell? ⟨gb389, 0, none⟩ = some (.slice A0_0 l0_0.length c0_0) := (blk_cell BK389.out 0).trans rfl
                  have hcz30_1 : wr.cell? ⟨gb389, 1, none⟩ = some (.slice A0_1 l0_1.length c0_1) := (blk_cell BK389.out 1).trans rfl
                  have hcz30_2 : wr.cell? ⟨gb389, 2, none⟩ = some (.slice A0_2 l0_2.length c0_2) := (blk_cell BK389.out 2).trans rfl
                  have hfz30_0 := blk_frozen BK389.out 0
                  have hfz30_1 := blk_frozen BK389.out 1
                  have hfz30_2 := blk_frozen BK389.out 2
                  go_wp2
                  go_meet
                  case rel => exact ⟨_, (decide (x5_3 < (l0_1.length : Int))), (by first | rfl | (simp; done) | (simp [*]; done)), H', ⟨by have := HJ1.out; have := HJ20.out; have := HK3.out; first | omega | exact Nat.le_refl _⟩, ⟨by (with_reducible repeat (first | refine blk_drewN ?_ _ | refine blk_drew ?_ | refine blk_alloc ?_ _)); exact BK389.out⟩, ⟨by repeat (first | (with_reducible first | exact HB.out | apply below_alloc | apply pw_below_drewN | apply below_drew1 | refine below_set ?_ GE389.out) | exact HB.out)⟩⟩
                · replace c29 := Bool.eq_false_iff.mpr c29
                  subst c29
                  have H1 : (wishbooklaw10_sound.j4 k3 false x5_3 false l0_0 l0_1 l0_2) = some r := by rw [if_neg (show ¬ (false = true) by decide)] at H; exact H
                  clear H
                  have H := H1
                  clear H1
                  have H' := Aside0.mk H
                  clear H
                  go_wp2
                  go_meet
                  case rel => exact ⟨_, (false), (by first | rfl | (simp; done) | (simp [*]; done)), H', ⟨by have := HJ1.out; have := HJ20.out; have := HK3.out; first | omega | exact Nat.le_refl _⟩, ⟨by (with_reducible repeat (first | refine blk_drewN ?_ _ | refine blk_drew ?_ | refine blk_alloc ?_ _)); exact BK389.out⟩, ⟨by repeat (first | (with_reducible first | exact HB.out | apply below_alloc | apply pw_below_drewN | apply below_drew1 | refine below_set ?_ GE389.out) | exact HB.out)⟩⟩
              case rest =>
                clear HC28
                try clear c2
                try clear p2
                try clear c3
                try clear p3
                try clear q3
                try clear hx3
                try clear c4
                try clear c5
                try clear c5b0
                try clear c5b1
                try clear p6
                try clear c7
                try clear c9
                try clear c22
                try clear c23
                try clear c23b0
                try clear c24
                try clear c24b0
                try clear c29
                try clear c30
                try clear hcz10_0
                try clear hcz10_1
                try clear hcz10_2
                try clear hcz12_0
                try clear hcz12_1
                try clear hcz12_2
                try clear hcz13_0
                try clear hcz13_1
                try clear hcz13_2
                try clear hcz15_0
                try clear hcz15_1
                try clear hcz15_2
                try clear hcz16_0
                try clear hcz16_1
                try clear hcz16_2
                try clear hcz18_0
                try clear hcz18_1
                try clear hcz18_2
                try clear hcz19_0
                try clear hcz19_1
                try clear hcz19_2
                try clear hcz26_0
                try clear hcz26_1
                try clear hcz26_2
                try clear hcz27_0
                try clear hcz27_1
                try clear hcz27_2
                try clear hcz30_0
                try clear hcz30_1
                try clear hcz30_2
                try clear hfz10_0
                try clear hfz10_1
                try clear hfz10_2
                try clear hfz12_0
                try clear hfz12_1
                try clear hfz12_2
                try clear hfz13_0
                try clear hfz13_1
                try clear hfz13_2
                try clear hfz15_0
                try clear hfz15_1
                try clear hfz15_2
                try clear hfz16_0
                try clear hfz16_1
                try clear hfz16_2
                try clear hfz18_0
                try clear hfz18_1
                try clear hfz18_2
                try clear hfz19_0
                try clear hfz19_1
                try clear hfz19_2
                try clear hfz26_0
                try clear hfz26_1
                try clear hfz26_2
                try clear hfz27_0
                try clear hfz27_1
                try clear hfz27_2
                try clear hfz30_0
                try clear hfz30_1
                try clear hfz30_2
                try clear hx393_0
                try clear p2
                try clear p3
                try clear p393
                try clear p6
                try clear q3
                try clear q393
                obtain ⟨kq, x53_27, rfl, HA, HJ27, BK389, HB⟩ := hcut
                cases kq with
                | zero => exact absurd HA.out (by simp [wishbooklaw10_sound.j4])
                | succ kj27 =>
                  have H := HA.out
                  clear HA
                  simp only [wishbooklaw10_sound.j4] at H
                  by_cases c31 : x53_27 = true
                  · subst c31
                    have H1 : (if 0 ≤ x5_3 then (if x5_3 < (l0_1.length : Int) then ((wishbookref00_Tween.f ((rd_T47 l0_1 x5_3).f0) 0 9).bind fun t397 => (if t397 = true then ((wishbookref00_Tween.f ((rd_T47 l0_1 x5_3).f1) 0 (wrap64 ((l0_0.length : Int) - 1))).bind fun t398 => (if t398 = true then ((wishbookref00_Tween.f ((rd_T47 l0_1 x5_3).f2) 1 20).bind fun t399 => (if t399 = true then ((wishbookref00_Tween.f ((rd_T47 l0_1 x5_3).f3) 0 100).bind fun t400 => (if t400 = true then ((wishbookref00_Tween.f ((rd_T47 l0_1 x5_3).f4) (-1) (wrap64 ((l0_0.length : Int) - 1))).bind fun t401 => (wishbooklaw10_sound.l1 kj27 t401 (wrap64 (x5_3 + 1)) l0_0 l0_1 l0_2)) else (wishbooklaw10_sound.l1 kj27 false (wrap64 (x5_3 + 1)) l0_0 l0_1 l0_2))) else (wishbooklaw10_sound.l1 kj27 false (wrap64 (x5_3 + 1)) l0_0 l0_1 l0_2))) else (wishbooklaw10_sound.l1 kj27 false (wrap64 (x5_3 + 1)) l0_0 l0_1 l0_2))) else (wishbooklaw10_sound.l1 kj27 false (wrap64 (x5_3 + 1)) l0_0 l0_1 l0_2))) else (none)) else (none)) = some r := by rw [if_pos rfl] at H; exact H
                    clear H
                    have H := H1
                    clear H1
                    by_cases c32 : 0 ≤ x5_3
                    · rw [if_pos c32] at H
                      have c32b0 : decide (0 ≤ x5_3) = true := decide_eq_true c32
                      clear c32
                      by_cases c33 : x5_3 < (l0_1.length : Int)
                      · rw [if_pos c33] at H
                        have c33b0 : decide (x5_3 < (l0_1.length : Int)) = true := decide_eq_true c33
                        clear c33
                        replace H := Option.bind_eq_some_iff.mp H
                        obtain ⟨t397, A340, H⟩ := H
                        replace H : (if t397 = true then ((wishbookref00_Tween.f ((rd_T47 l0_1 x5_3).f1) 0 (wrap64 ((l0_0.length : Int) - 1))).bind fun t398 => (if t398 = true then ((wishbookref00_Tween.f ((rd_T47 l0_1 x5_3).f2) 1 20).bind fun t399 => (if t399 = true then ((wishbookref00_Tween.f ((rd_T47 l0_1 x5_3).f3) 0 100).bind fun t400 => (if t400 = true then ((wishbookref00_Tween.f ((rd_T47 l0_1 x5_3).f4) (-1) (wrap64 ((l0_0.length : Int) - 1))).bind fun t401 => (wishbooklaw10_sound.l1 kj27 t401 (wrap64 (x5_3 + 1)) l0_0 l0_1 l0_2)) else (wishbooklaw10_sound.l1 kj27 false (wrap64 (x5_3 + 1)) l0_0 l0_1 l0_2))) else (wishbooklaw10_sound.l1 kj27 false (wrap64 (x5_3 + 1)) l0_0 l0_1 l0_2))) else (wishbooklaw10_sound.l1 kj27 false (wrap64 (x5_3 + 1)) l0_0 l0_1 l0_2))) else (wishbooklaw10_sound.l1 kj27 false (wrap64 (x5_3 + 1)) l0_0 l0_1 l0_2)) = some r := H
                        have A34 := Aside0.mk A340
                        clear A340
                        by_cases c35 : t397 = true
                        · subst c35
                          have H1 : ((wishbookref00_Tween.f ((rd_T47 l0_1 x5_3).f1) 0 (wrap64 ((l0_0.length : Int) - 1))).bind fun t398 => (if t398 = true then ((wishbookref00_Tween.f ((rd_T47 l0_1 x5_3).f2) 1 20).bind fun t399 => (if t399 = true then ((wishbookref00_Tween.f ((rd_T47 l0_1 x5_3).f3) 0 100).bind fun t400 => (if t400 = true then ((wishbookref00_Tween.f ((rd_T47 l0_1 x5_3).f4) (-1) (wrap64 ((l0_0.length : Int) - 1))).bind fun t401 => (wishbooklaw10_sound.l1 kj27 t401 (wrap64 (x5_3 + 1)) l0_0 l0_1 l0_2)) else (wishbooklaw10_sound.l1 kj27 false (wrap64 (x5_3 + 1)) l0_0 l0_1 l0_2))) else (wishbooklaw10_sound.l1 kj27 false (wrap64 (x5_3 + 1)) l0_0 l0_1 l0_2))) else (wishbooklaw10_sound.l1 kj27 false (wrap64 (x5_3 + 1)) l0_0 l0_1 l0_2))) = some r := by rw [if_pos rfl] at H; exact H
                          clear H
                          have H := H1
                          clear H1
                          replace H := Option.bind_eq_some_iff.mp H
                          obtain ⟨t398, A360, H⟩ := H
                          replace H : (if t398 = true then ((wishbookref00_Tween.f ((rd_T47 l0_1 x5_3).f2) 1 20).bind fun t399 => (if t399 = true then ((wishbookref00_Tween.f ((rd_T47 l0_1 x5_3).f3) 0 100).bind fun t400 => (if t400 = true then ((wishbookref00_Tween.f ((rd_T47 l0_1 x5_3).f4) (-1) (wrap64 ((l0_0.length : Int) - 1))).bind fun t401 => (wishbooklaw10_sound.l1 kj27 t401 (wrap64 (x5_3 + 1)) l0_0 l0_1 l0_2)) else (wishbooklaw10_sound.l1 kj27 false (wrap64 (x5_3 + 1)) l0_0 l0_1 l0_2))) else (wishbooklaw10_sound.l1 kj27 false (wrap64 (x5_3 + 1)) l0_0 l0_1 l0_2))) else (wishbooklaw10_sound.l1 kj27 false (wrap64 (x5_3 + 1)) l0_0 l0_1 l0_2)) = some r := H
                          have A36 := Aside0.mk A360
                          clear A360
                          by_cases c37 : t398 = true
                          · subst c37
                            have H1 : ((wishbookref00_Tween.f ((rd_T47 l0_1 x5_3).f2) 1 20).bind fun t399 => (if t399 = true then ((wishbookref00_Tween.f ((rd_T47 l0_1 x5_3).f3) 0 100).bind fun t400 => (if t400 = true then ((wishbookref00_Tween.f ((rd_T47 l0_1 x5_3).f4) (-1) (wrap64 ((l0_0.length : Int) - 1))).bind fun t401 => (wishbooklaw10_sound.l1 kj27 t401 (wrap64 (x5_3 + 1)) l0_0 l0_1 l0_2)) else (wishbooklaw10_sound.l1 kj27 false (wrap64 (x5_3 + 1)) l0_0 l0_1 l0_2))) else (wishbooklaw10_sound.l1 kj27 false (wrap64 (x5_3 + 1)) l0_0 l0_1 l0_2))) = some r := by rw [if_pos rfl] at H; exact H
                            clear H
                            have H := H1
                            clear H1
                            replace H := Option.bind_eq_some_iff.mp H
                            obtain ⟨t399, A380, H⟩ := H
                            replace H : (if t399 = true then ((wishbookref00_Tween.f ((rd_T47 l0_1 x5_3).f3) 0 100).bind fun t400 => (if t400 = true then ((wishbookref00_Tween.f ((rd_T47 l0_1 x5_3).f4) (-1) (wrap64 ((l0_0.length : Int) - 1))).bind fun t401 => (wishbooklaw10_sound.l1 kj27 t401 (wrap64 (x5_3 + 1)) l0_0 l0_1 l0_2)) else (wishbooklaw10_sound.l1 kj27 false (wrap64 (x5_3 + 1)) l0_0 l0_1 l0_2))) else (wishbooklaw10_sound.l1 kj27 false (wrap64 (x5_3 + 1)) l0_0 l0_1 l0_2)) = some r := H
                            have A38 := Aside0.mk A380
                            clear A380
                            by_cases c39 : t399 = true
                            · subst c39
                              have H1 : ((wishbookref00_Tween.f ((rd_T47 l0_1 x5_3).f3) 0 100).bind fun t400 => (if t400 = true then ((wishbookref00_Tween.f ((rd_T47 l0_1 x5_3).f4) (-1) (wrap64 ((l0_0.length : Int) - 1))).bind fun t401 => (wishbooklaw10_sound.l1 kj27 t401 (wrap64 (x5_3 + 1)) l0_0 l0_1 l0_2)) else (wishbooklaw10_sound.l1 kj27 false (wrap64 (x5_3 + 1)) l0_0 l0_1 l0_2))) = some r := by rw [if_pos rfl] at H; exact H
                              clear H
                              have H := H1
                              clear H1
                              replace H := Option.bind_eq_some_iff.mp H
                              obtain ⟨t400, A400, H⟩ := H
                              replace H : (if t400 = true then ((wishbookref00_Tween.f ((rd_T47 l0_1 x5_3).f4) (-1) (wrap64 ((l0_0.length : Int) - 1))).bind fun t401 => (wishbooklaw10_sound.l1 kj27 t401 (wrap64 (x5_3 + 1)) l0_0 l0_1 l0_2)) else (wishbooklaw10_sound.l1 kj27 false (wrap64 (x5_3 + 1)) l0_0 l0_1 l0_2)) = some r := H
                              have A40 := Aside0.mk A400
                              clear A400
                              by_cases c41 : t400 = true
                              · subst c41
                                have H1 : ((wishbookref00_Tween.f ((rd_T47 l0_1 x5_3).f4) (-1) (wrap64 ((l0_0.length : Int) - 1))).bind fun t401 => (wishbooklaw10_sound.l1 kj27 t401 (wrap64 (x5_3 + 1)) l0_0 l0_1 l0_2)) = some r := by rw [if_pos rfl] at H; exact H
                                clear H
                                have H := H1
                                clear H1
                                replace H := Option.bind_eq_some_iff.mp H
                                obtain ⟨t401, A420, H⟩ := H
                                replace H : (wishbooklaw10_sound.l1 kj27 t401 (wrap64 (x5_3 + 1)) l0_0 l0_1 l0_2) = some r := H
                                have A42 := Aside0.mk A420
                                clear A420
                                have H' := Aside0.mk H
                                clear H
                                have hcz43_0 : wc.cell? ⟨gb389, 0, none⟩ = some (.slice A0_0 l0_0.length c0_0) := (blk_cell BK389.out 0).trans rfl
                                have hcz43_1 : wc.cell? ⟨gb389, 1, none⟩ = some (.slice A0_1 l0_1.length c0_1) := (blk_cell BK389.out 1).trans rfl
                                have hcz43_2 : wc.cell? ⟨gb389, 2, none⟩ = some (.slice A0_2 l0_2.length c0_2) := (blk_cell BK389.out 2).trans rfl
                                have hfz43_0 := blk_frozen BK389.out 0
                                have hfz43_1 := blk_frozen BK389.out 1
                                have hfz43_2 := blk_frozen BK389.out 2
                                have p395 : 0 ≤ (x5_3 : Int) := of_decide_eq_true (by first | (with_reducible assumption) | assumption)
                                have q395 : x5_3 < (l0_1.length : Int) := of_decide_eq_true (by first | (with_reducible assumption) | assumption)
                                obtain ⟨ad395, e395, hx395_0, hx395_1, hx395_2, hx395_3, hx395_4⟩ := at_T47 HR0_1.out x5_3 p395 q395
                                cases e395
                                replace hx395_0 := (HB.out.cell (World.block_lt_of_cell? w _ hx395_0)).trans hx395_0
                                replace hx395_1 := (HB.out.cell (World.block_lt_of_cell? w _ hx395_1)).trans hx395_1
                                replace hx395_2 := (HB.out.cell (World.block_lt_of_cell? w _ hx395_2)).trans hx395_2
                                replace hx395_3 := (HB.out.cell (World.block_lt_of_cell? w _ hx395_3)).trans hx395_3
                                replace hx395_4 := (HB.out.cell (World.block_lt_of_cell? w _ hx395_4)).trans hx395_4
                                replace p395 := eq_true p395
                                replace q395 := eq_true q395
                                go_wp2_with (first | ((with_reducible refine gate_dst (N := 6) rfl ?_); (try (refine gate_guard (by rfl) ?_; dsimp only)); refine box_event ?hg (N := 6) ?hd (cs := #[.int .i64 0, .int .i64 0, .int .i64 0, .int .i64 0, .int .i64 0]) (t := 47) ?hr ?_; (case hd => rfl); (case hg => rfl); (case hr => first | (go_simp; done) | (go_simp; rfl)); intro gb396 hg w44 hbox hb; have n0_ := Aside0.mk (blk_below (g := gb389) (o := .cells #[.slice A0_0 l0_0.length c0_0, .slice (some ad395) l0_1.length c0_1, .slice A0_2 l0_2.length c0_2] 26 (0, 0)) (by (with_reducible repeat (first | refine blk_drewN ?_ _ | refine blk_drew ?_ | refine blk_alloc ?_ _)); exact BK389.out) hb); have n1_ := Aside0.mk (below_step (by repeat (first | (with_reducible first | exact HB.out | apply below_alloc | apply pw_below_drewN | apply below_drew1 | refine below_set ?_ GE389.out) | exact HB.out)) hb); have n2_ := Aside0.mk (hbox); have n3_ := Aside0.mk ((by rw [hg]; exact (below_size (by repeat (first | (with_reducible first | exact HB.out | apply below_alloc | apply pw_below_drewN | apply below_drew1 | refine below_set ?_ GE389.out) | exact HB.out))) : w.heap.size ≤ gb396)); have n4_ := Aside0.mk ((by rw [hg]; exact (below_size (by repeat (first | (with_reducible first | exact HB.out | apply below_alloc | apply pw_below_drewN | apply below_drew1 | refine below_set ?_ GE389.out) | exact HB.out))) : w.heap.size ≤ gb396)); have n5_ := Aside0.mk ((by rw [hg]; exact Nat.ne_of_lt (blk_lt (g := gb389) (o := .cells #[.slice A0_0 l0_0.length c0_0, .slice (some ad395) l0_1.length c0_1, .slice A0_2 l0_2.length c0_2] 26 (0, 0)) (by (with_reducible repeat (first | refine blk_drewN ?_ _ | refine blk_drew ?_ | refine blk_alloc ?_ _)); exact BK389.out)) : gb389 ≠ gb396)); have n6_ := Aside0.mk ((by rw [hg]; exact Nat.ne_of_gt (blk_lt (g := gb389) (o := .cells #[.slice A0_0 l0_0.length c0_0, .slice (some ad395) l0_1.length c0_1, .slice A0_2 l0_2.length c0_2] 26 (0, 0)) (by (with_reducible repeat (first | refine blk_drewN ?_ _ | refine blk_drew ?_ | refine blk_alloc ?_ _)); exact BK389.out)) : gb396 ≠ gb389)); clear BK389; clear HB; have BK389 := n0_; have HB := n1_; have BK396 := n2_; have GW396 := n3_; have GE396 := n4_; have NB389_396 := n5_; have NB396_389 := n6_; clear n0_ n1_ n2_ n3_ n4_ n5_ n6_; clear hb hbox hg; have hnb45 := NB396_389.out; have hnc45 := NB389_396.out; have hcz46_0 : w44.cell? ⟨gb396, 0, none⟩ = some (.int .i64 0) := (blk_cell BK396.out 0).trans rfl; have hcz46_1 : w44.cell? ⟨gb396, 1, none⟩ = some (.int .i64 0) := (blk_cell BK396.out 1).trans rfl; have hcz46_2 : w44.cell? ⟨gb396, 2, none⟩ = some (.int .i64 0) := (blk_cell BK396.out 2).trans rfl; have hcz46_3 : w44.cell? ⟨gb396, 3, none⟩ = some (.int .i64 0) := (blk_cell BK396.out 3).trans rfl; have hcz46_4 : w44.cell? ⟨gb396, 4, none⟩ = some (.int .i64 0) := (blk_cell BK396.out 4).trans rfl; have hfz46_0 := blk_frozen BK396.out 0; have hfz46_1 := blk_frozen BK396.out 1; have hfz46_2 := blk_frozen BK396.out 2; have hfz46_3 := blk_frozen BK396.out 3; have hfz46_4 := blk_frozen BK396.out 4) | ((with_reducible refine gate_callee (f := 34) rfl ?_); refine goesL_ (some 63) rfl rfl Tryd.func34 (by kernel_rfl) rfl #[.int .i64 ((rd_T47 l0_1 x5_3).f0), .int .i64 0, .int .i64 9] rfl (by (try simp only [List.map_toArray, List.map_cons, List.map_nil]); first | done | rfl | (simp only [List.length_drop, List.length_take]; rfl)) ?_; (with_reducible refine (wishbookref00_Tween.calls ((rd_T47 l0_1 x5_3).f0) 0 9 true _ A34.out).mono ?_); rintro e w' ⟨rfl, ⟨nd, rfl⟩⟩; refine ⟨_, rfl, ?_⟩; have hcz47_0 : w44.cell? ⟨gb389, 0, none⟩ = some (.slice A0_0 l0_0.length c0_0) := (blk_cell BK389.out 0).trans rfl; have hcz47_1 : w44.cell? ⟨gb389, 1, none⟩ = some (.slice (some ad395) l0_1.length c0_1) := (blk_cell BK389.out 1).trans rfl; have hcz47_2 : w44.cell? ⟨gb389, 2, none⟩ = some (.slice A0_2 l0_2.length c0_2) := (blk_cell BK389.out 2).trans rfl; have hfz47_0 := blk_frozen BK389.out 0; have hfz47_1 := blk_frozen BK389.out 1; have hfz47_2 := blk_frozen BK389.out 2) | (go_at_call 34; (with_reducible refine (wishbookref00_Tween.calls ((rd_T47 l0_1 x5_3).f1) 0 (wrap64 ((l0_0.length : Int) - 1)) true _ A36.out).mono ?_); rintro e w' ⟨rfl, ⟨nd, rfl⟩⟩) | (go_at_call 34; (with_reducible refine (wishbookref00_Tween.calls ((rd_T47 l0_1 x5_3).f2) 1 20 true _ A38.out).mono ?_); rintro e w' ⟨rfl, ⟨nd, rfl⟩⟩) | (go_at_call 34; (with_reducible refine (wishbookref00_Tween.calls ((rd_T47 l0_1 x5_3).f3) 0 100 true _ A40.out).mono ?_); rintro e w' ⟨rfl, ⟨nd, rfl⟩⟩) | (go_at_call 34; (with_reducible refine (wishbookref00_Tween.calls ((rd_T47 l0_1 x5_3).f4) (-1) (wrap64 ((l0_0.length : Int) - 1)) t401 _ A42.out).mono ?_); rintro e w' ⟨rfl, ⟨nd, rfl⟩⟩))
                                go_roundg kj27
                                case measure => have := HJ1.out; have := HJ20.out; have := HK3.out; have := HJ27.out; omega
                                case rel => exact ⟨(t401), (wrap64 (x5_3 + 1)), (by first | rfl | (simp; done) | (simp [*]; done)), (by first | rfl | (simp; done) | (simp [*]; done)), H', ⟨by have := HJ1.out; have := HJ20.out; have := HK3.out; have := HJ27.out; omega⟩, ⟨by (with_reducible repeat (first | refine blk_drewN ?_ _ | refine blk_drew ?_ | refine blk_alloc ?_ _)); refine blk_far ?_ NB389_396.out _; (with_reducible repeat (first | refine blk_drewN ?_ _ | refine blk_drew ?_ | refine blk_alloc ?_ _)); refine blk_far ?_ NB389_396.out _; (with_reducible repeat (first | refine blk_drewN ?_ _ | refine blk_drew ?_ | refine blk_alloc ?_ _)); refine blk_far ?_ NB389_396.out _; (with_reducible repeat (first | refine blk_drewN ?_ _ | refine blk_drew ?_ | refine blk_alloc ?_ _)); refine blk_far ?_ NB389_396.out _; (with_reducible repeat (first | refine blk_drewN ?_ _ | refine blk_drew ?_ | refine blk_alloc ?_ _)); refine blk_far ?_ NB389_396.out _; (with_reducible repeat (first | refine blk_drewN ?_ _ | refine blk_drew ?_ | refine blk_alloc ?_ _)); exact BK389.out⟩, ⟨by repeat (first | (with_reducible first | exact HB.out | apply below_alloc | apply pw_below_drewN | apply below_drew1 | refine below_set ?_ GE389.out | refine below_set ?_ GE396.out) | exact HB.out)⟩⟩
                              · replace c41 := Bool.eq_false_iff.mpr c41
                                subst c41
                                have H1 : (wishbooklaw10_sound.l1 kj27 false (wrap64 (x5_3 + 1)) l0_0 l0_1 l0_2) = some r := by rw [if_neg (show ¬ (false = true) by decide)] at H; exact H
                                clear H
                                have H := H1
                                clear H1
                                have H' := Aside0.mk H
                                clear H
                                have hcz48_0 : wc.cell? ⟨gb389, 0, none⟩ = some (.slice A0_0 l0_0.length c0_0) := (blk_cell BK389.out 0).trans rfl
                                have hcz48_1 : wc.cell? ⟨gb389, 1, none⟩ = some (.slice A0_1 l0_1.length c0_1) := (blk_cell BK389.out 1).trans rfl
                                have hcz48_2 : wc.cell? ⟨gb389, 2, none⟩ = some (.slice A0_2 l0_2.length c0_2) := (blk_cell BK389.out 2).trans rfl
                                have hfz48_0 := blk_frozen BK389.out 0
                                have hfz48_1 := blk_frozen BK389.out 1
                                have hfz48_2 := blk_frozen BK389.out 2
                                have p395 : 0 ≤ (x5_3 : Int) := of_decide_eq_true (by first | (with_reducible assumption) | assumption)
                                have q395 : x5_3 < (l0_1.length : Int) := of_decide_eq_true (by first | (with_reducible assumption) | assumption)
                                obtain ⟨ad395, e395, hx395_0, hx395_1, hx395_2, hx395_3, hx395_4⟩ := at_T47 HR0_1.out x5_3 p395 q395
                                cases e395
                                replace hx395_0 := (HB.out.cell (World.block_lt_of_cell? w _ hx395_0)).trans hx395_0
                                replace hx395_1 := (HB.out.cell (World.block_lt_of_cell? w _ hx395_1)).trans hx395_1
                                replace hx395_2 := (HB.out.cell (World.block_lt_of_cell? w _ hx395_2)).trans hx395_2
                                replace hx395_3 := (HB.out.cell (World.block_lt_of_cell? w _ hx395_3)).trans hx395_3
                                replace hx395_4 := (HB.out.cell (World.block_lt_of_cell? w _ hx395_4)).trans hx395_4
                                replace p395 := eq_true p395
                                replace q395 := eq_true q395
                                go_wp2_with (first | ((with_reducible refine gate_dst (N := 6) rfl ?_); (try (refine gate_guard (by rfl) ?_; dsimp only)); refine box_event ?hg (N := 6) ?hd (cs := #[.int .i64 0, .int .i64 0, .int .i64 0, .int .i64 0, .int .i64 0]) (t := 47) ?hr ?_; (case hd => rfl); (case hg => rfl); (case hr => first | (go_simp; done) | (go_simp; rfl)); intro gb396 hg w49 hbox hb; have n0_ := Aside0.mk (blk_below (g := gb389) (o := .cells #[.slice A0_0 l0_0.length c0_0, .slice (some ad395) l0_1.length c0_1, .slice A0_2 l0_2.length c0_2] 26 (0, 0)) (by (with_reducible repeat (first | refine blk_drewN ?_ _ | refine blk_drew ?_ | refine blk_alloc ?_ _)); exact BK389.out) hb); have n1_ := Aside0.mk (below_step (by repeat (first | (with_reducible first | exact HB.out | apply below_alloc | apply pw_below_drewN | apply below_drew1 | refine below_set ?_ GE389.out) | exact HB.out)) hb); have n2_ := Aside0.mk (hbox); have n3_ := Aside0.mk ((by rw [hg]; exact (below_size (by repeat (first | (with_reducible first | exact HB.out | apply below_alloc | apply pw_below_drewN | apply below_drew1 | refine below_set ?_ GE389.out) | exact HB.out))) : w.heap.size ≤ gb396)); have n4_ := Aside0.mk ((by rw [hg]; exact (below_size (by repeat (first | (with_reducible first | exact HB.out | apply below_alloc | apply pw_below_drewN | apply below_drew1 | refine below_set ?_ GE389.out) | exact HB.out))) : w.heap.size ≤ gb396)); have n5_ := Aside0.mk ((by rw [hg]; exact Nat.ne_of_lt (blk_lt (g := gb389) (o := .cells #[.slice A0_0 l0_0.length c0_0, .slice (some ad395) l0_1.length c0_1, .slice A0_2 l0_2.length c0_2] 26 (0, 0)) (by (with_reducible repeat (first | refine blk_drewN ?_ _ | refine blk_drew ?_ | refine blk_alloc ?_ _)); exact BK389.out)) : gb389 ≠ gb396)); have n6_ := Aside0.mk ((by rw [hg]; exact Nat.ne_of_gt (blk_lt (g := gb389) (o := .cells #[.slice A0_0 l0_0.length c0_0, .slice (some ad395) l0_1.length c0_1, .slice A0_2 l0_2.length c0_2] 26 (0, 0)) (by (with_reducible repeat (first | refine blk_drewN ?_ _ | refine blk_drew ?_ | refine blk_alloc ?_ _)); exact BK389.out)) : gb396 ≠ gb389)); clear BK389; clear HB; have BK389 := n0_; have HB := n1_; have BK396 := n2_; have GW396 := n3_; have GE396 := n4_; have NB389_396 := n5_; have NB396_389 := n6_; clear n0_ n1_ n2_ n3_ n4_ n5_ n6_; clear hb hbox hg; have hnb50 := NB396_389.out; have hnc50 := NB389_396.out; have hcz51_0 : w49.cell? ⟨gb396, 0, none⟩ = some (.int .i64 0) := (blk_cell BK396.out 0).trans rfl; have hcz51_1 : w49.cell? ⟨gb396, 1, none⟩ = some (.int .i64 0) := (blk_cell BK396.out 1).trans rfl; have hcz51_2 : w49.cell? ⟨gb396, 2, none⟩ = some (.int .i64 0) := (blk_cell BK396.out 2).trans rfl; have hcz51_3 : w49.cell? ⟨gb396, 3, none⟩ = some (.int .i64 0) := (blk_cell BK396.out 3).trans rfl; have hcz51_4 : w49.cell? ⟨gb396, 4, none⟩ = some (.int .i64 0) := (blk_cell BK396.out 4).trans rfl; have hfz51_0 := blk_frozen BK396.out 0; have hfz51_1 := blk_frozen BK396.out 1; have hfz51_2 := blk_frozen BK396.out 2; have hfz51_3 := blk_frozen BK396.out 3; have hfz51_4 := blk_frozen BK396.out 4) | ((with_reducible refine gate_callee (f := 34) rfl ?_); refine goesL_ (some 63) rfl rfl Tryd.func34 (by kernel_rfl) rfl #[.int .i64 ((rd_T47 l0_1 x5_3).f0), .int .i64 0, .int .i64 9] rfl (by (try simp only [List.map_toArray, List.map_cons, List.map_nil]); first | done | rfl | (simp only [List.length_drop, List.length_take]; rfl)) ?_; (with_reducible refine (wishbookref00_Tween.calls ((rd_T47 l0_1 x5_3).f0) 0 9 true _ A34.out).mono ?_); rintro e w' ⟨rfl, ⟨nd, rfl⟩⟩; refine ⟨_, rfl, ?_⟩; have hcz52_0 : w49.cell? ⟨gb389, 0, none⟩ = some (.slice A0_0 l0_0.length c0_0) := (blk_cell BK389.out 0).trans rfl; have hcz52_1 : w49.cell? ⟨gb389, 1, none⟩ = some (.slice (some ad395) l0_1.length c0_1) := (blk_cell BK389.out 1).trans rfl; have hcz52_2 : w49.cell? ⟨gb389, 2, none⟩ = some (.slice A0_2 l0_2.length c0_2) := (blk_cell BK389.out 2).trans rfl; have hfz52_0 := blk_frozen BK389.out 0; have hfz52_1 := blk_frozen BK389.out 1; have hfz52_2 := blk_frozen BK389.out 2) | (go_at_call 34; (with_reducible refine (wishbookref00_Tween.calls ((rd_T47 l0_1 x5_3).f1) 0 (wrap64 ((l0_0.length : Int) - 1)) true _ A36.out).mono ?_); rintro e w' ⟨rfl, ⟨nd, rfl⟩⟩) | (go_at_call 34; (with_reducible refine (wishbookref00_Tween.calls ((rd_T47 l0_1 x5_3).f2) 1 20 true _ A38.out).mono ?_); rintro e w' ⟨rfl, ⟨nd, rfl⟩⟩) | (go_at_call 34; (with_reducible refine (wishbookref00_Tween.calls ((rd_T47 l0_1 x5_3).f3) 0 100 false _ A40.out).mono ?_); rintro e w' ⟨rfl, ⟨nd, rfl⟩⟩))
                                go_roundg kj27
                                case measure => have := HJ1.out; have := HJ20.out; have := HK3.out; have := HJ27.out; omega
                                case rel => exact ⟨(false), (wrap64 (x5_3 + 1)), (by first | rfl | (simp; done) | (simp [*]; done)), (by first | rfl | (simp; done) | (simp [*]; done)), H', ⟨by have := HJ1.out; have := HJ20.out; have := HK3.out; have := HJ27.out; omega⟩, ⟨by (with_reducible repeat (first | refine blk_drewN ?_ _ | refine blk_drew ?_ | refine blk_alloc ?_ _)); refine blk_far ?_ NB389_396.out _; (with_reducible repeat (first | refine blk_drewN ?_ _ | refine blk_drew ?_ | refine blk_alloc ?_ _)); refine blk_far ?_ NB389_396.out _; (with_reducible repeat (first | refine blk_drewN ?_ _ | refine blk_drew ?_ | refine blk_alloc ?_ _)); refine blk_far ?_ NB389_396.out _; (with_reducible repeat (first | refine blk_drewN ?_ _ | refine blk_drew ?_ | refine blk_alloc ?_ _)); refine blk_far ?_ NB389_396.out _; (with_reducible repeat (first | refine blk_drewN ?_ _ | refine blk_drew ?_ | refine blk_alloc ?_ _)); refine blk_far ?_ NB389_396.out _; (with_reducible repeat (first | refine blk_drewN ?_ _ | refine blk_drew ?_ | refine blk_alloc ?_ _)); exact BK389.out⟩, ⟨by repeat (first | (with_reducible first | exact HB.out | apply below_alloc | apply pw_below_drewN | apply below_drew1 | refine below_set ?_ GE389.out | refine below_set ?_ GE396.out) | exact HB.out)⟩⟩
                            · replace c39 := Bool.eq_false_iff.mpr c39
                              subst c39
                              have H1 : (wishbooklaw10_sound.l1 kj27 false (wrap64 (x5_3 + 1)) l0_0 l0_1 l0_2) = some r := by rw [if_neg (show ¬ (false = true) by decide)] at H; exact H
                              clear H
                              have H := H1
                              clear H1
                              have H' := Aside0.mk H
                              clear H
                              have hcz53_0 : wc.cell? ⟨gb389, 0, none⟩ = some (.slice A0_0 l0_0.length c0_0) := (blk_cell BK389.out 0).trans rfl
                              have hcz53_1 : wc.cell? ⟨gb389, 1, none⟩ = some (.slice A0_1 l0_1.length c0_1) := (blk_cell BK389.out 1).trans rfl
                              have hcz53_2 : wc.cell? ⟨gb389, 2, none⟩ = some (.slice A0_2 l0_2.length c0_2) := (blk_cell BK389.out 2).trans rfl
                              have hfz53_0 := blk_frozen BK389.out 0
                              have hfz53_1 := blk_frozen BK389.out 1
                              have hfz53_2 := blk_frozen BK389.out 2
                              have p395 : 0 ≤ (x5_3 : Int) := of_decide_eq_true (by first | (with_reducible assumption) | assumption)
                              have q395 : x5_3 < (l0_1.length : Int) := of_decide_eq_true (by first | (with_reducible assumption) | assumption)
                              obtain ⟨ad395, e395, hx395_0, hx395_1, hx395_2, hx395_3, hx395_4⟩ := at_T47 HR0_1.out x5_3 p395 q395
                              cases e395
                              replace hx395_0 := (HB.out.cell (World.block_lt_of_cell? w _ hx395_0)).trans hx395_0
                              replace hx395_1 := (HB.out.cell (World.block_lt_of_cell? w _ hx395_1)).trans hx395_1
                              replace hx395_2 := (HB.out.cell (World.block_lt_of_cell? w _ hx395_2)).trans hx395_2
                              replace hx395_3 := (HB.out.cell (World.block_lt_of_cell? w _ hx395_3)).trans hx395_3
                              replace hx395_4 := (HB.out.cell (World.block_lt_of_cell? w _ hx395_4)).trans hx395_4
                              replace p395 := eq_true p395
                              replace q395 := eq_true q395
                              go_wp2_with (first | ((with_reducible refine gate_dst (N := 6) rfl ?_); (try (refine gate_guard (by rfl) ?_; dsimp only)); refine box_event ?hg (N := 6) ?hd (cs := #[.int .i64 0, .int .i64 0, .int .i64 0, .int .i64 0, .int .i64 0]) (t := 47) ?hr ?_; (case hd => rfl); (case hg => rfl); (case hr => first | (go_simp; done) | (go_simp; rfl)); intro gb396 hg w54 hbox hb; have n0_ := Aside0.mk (blk_below (g := gb389) (o := .cells #[.slice A0_0 l0_0.length c0_0, .slice (some ad395) l0_1.length c0_1, .slice A0_2 l0_2.length c0_2] 26 (0, 0)) (by (with_reducible repeat (first | refine blk_drewN ?_ _ | refine blk_drew ?_ | refine blk_alloc ?_ _)); exact BK389.out) hb); have n1_ := Aside0.mk (below_step (by repeat (first | (with_reducible first | exact HB.out | apply below_alloc | apply pw_below_drewN | apply below_drew1 | refine below_set ?_ GE389.out) | exact HB.out)) hb); have n2_ := Aside0.mk (hbox); have n3_ := Aside0.mk ((by rw [hg]; exact (below_size (by repeat (first | (with_reducible first | exact HB.out | apply below_alloc | apply pw_below_drewN | apply below_drew1 | refine below_set ?_ GE389.out) | exact HB.out))) : w.heap.size ≤ gb396)); have n4_ := Aside0.mk ((by rw [hg]; exact (below_size (by repeat (first | (with_reducible first | exact HB.out | apply below_alloc | apply pw_below_drewN | apply below_drew1 | refine below_set ?_ GE389.out) | exact HB.out))) : w.heap.size ≤ gb396)); have n5_ := Aside0.mk ((by rw [hg]; exact Nat.ne_of_lt (blk_lt (g := gb389) (o := .cells #[.slice A0_0 l0_0.length c0_0, .slice (some ad395) l0_1.length c0_1, .slice A0_2 l0_2.length c0_2] 26 (0, 0)) (by (with_reducible repeat (first | refine blk_drewN ?_ _ | refine blk_drew ?_ | refine blk_alloc ?_ _)); exact BK389.out)) : gb389 ≠ gb396)); have n6_ := Aside0.mk ((by rw [hg]; exact Nat.ne_of_gt (blk_lt (g := gb389) (o := .cells #[.slice A0_0 l0_0.length c0_0, .slice (some ad395) l0_1.length c0_1, .slice A0_2 l0_2.length c0_2] 26 (0, 0)) (by (with_reducible repeat (first | refine blk_drewN ?_ _ | refine blk_drew ?_ | refine blk_alloc ?_ _)); exact BK389.out)) : gb396 ≠ gb389)); clear BK389; clear HB; have BK389 := n0_; have HB := n1_; have BK396 := n2_; have GW396 := n3_; have GE396 := n4_; have NB389_396 := n5_; have NB396_389 := n6_; clear n0_ n1_ n2_ n3_ n4_ n5_ n6_; clear hb hbox hg; have hnb55 := NB396_389.out; have hnc55 := NB389_396.out; have hcz56_0 : w54.cell? ⟨gb396, 0, none⟩ = some (.int .i64 0) := (blk_cell BK396.out 0).trans rfl; have hcz56_1 : w54.cell? ⟨gb396, 1, none⟩ = some (.int .i64 0) := (blk_cell BK396.out 1).trans rfl; have hcz56_2 : w54.cell? ⟨gb396, 2, none⟩ = some (.int .i64 0) := (blk_cell BK396.out 2).trans rfl; have hcz56_3 : w54.cell? ⟨gb396, 3, none⟩ = some (.int .i64 0) := (blk_cell BK396.out 3).trans rfl; have hcz56_4 : w54.cell? ⟨gb396, 4, none⟩ = some (.int .i64 0) := (blk_cell BK396.out 4).trans rfl; have hfz56_0 := blk_frozen BK396.out 0; have hfz56_1 := blk_frozen BK396.out 1; have hfz56_2 := blk_frozen BK396.out 2; have hfz56_3 := blk_frozen BK396.out 3; have hfz56_4 := blk_frozen BK396.out 4) | ((with_reducible refine gate_callee (f := 34) rfl ?_); refine goesL_ (some 63) rfl rfl Tryd.func34 (by kernel_rfl) rfl #[.int .i64 ((rd_T47 l0_1 x5_3).f0), .int .i64 0, .int .i64 9] rfl (by (try simp only [List.map_toArray, List.map_cons, List.map_nil]); first | done | rfl | (simp only [List.length_drop, List.length_take]; rfl)) ?_; (with_reducible refine (wishbookref00_Tween.calls ((rd_T47 l0_1 x5_3).f0) 0 9 true _ A34.out).mono ?_); rintro e w' ⟨rfl, ⟨nd, rfl⟩⟩; refine ⟨_, rfl, ?_⟩; have hcz57_0 : w54.cell? ⟨gb389, 0, none⟩ = some (.slice A0_0 l0_0.length c0_0) := (blk_cell BK389.out 0).trans rfl; have hcz57_1 : w54.cell? ⟨gb389, 1, none⟩ = some (.slice (some ad395) l0_1.length c0_1) := (blk_cell BK389.out 1).trans rfl; have hcz57_2 : w54.cell? ⟨gb389, 2, none⟩ = some (.slice A0_2 l0_2.length c0_2) := (blk_cell BK389.out 2).trans rfl; have hfz57_0 := blk_frozen BK389.out 0; have hfz57_1 := blk_frozen BK389.out 1; have hfz57_2 := blk_frozen BK389.out 2) | (go_at_call 34; (with_reducible refine (wishbookref00_Tween.calls ((rd_T47 l0_1 x5_3).f1) 0 (wrap64 ((l0_0.length : Int) - 1)) true _ A36.out).mono ?_); rintro e w' ⟨rfl, ⟨nd, rfl⟩⟩) | (go_at_call 34; (with_reducible refine (wishbookref00_Tween.calls ((rd_T47 l0_1 x5_3).f2) 1 20 false _ A38.out).mono ?_); rintro e w' ⟨rfl, ⟨nd, rfl⟩⟩))
                              go_roundg kj27
                              case measure => have := HJ1.out; have := HJ20.out; have := HK3.out; have := HJ27.out; omega
                              case rel => exact ⟨(false), (wrap64 (x5_3 + 1)), (by first | rfl | (simp; done) | (simp [*]; done)), (by first | rfl | (simp; done) | (simp [*]; done)), H', ⟨by have := HJ1.out; have := HJ20.out; have := HK3.out; have := HJ27.out; omega⟩, ⟨by (with_reducible repeat (first | refine blk_drewN ?_ _ | refine blk_drew ?_ | refine blk_alloc ?_ _)); refine blk_far ?_ NB389_396.out _; (with_reducible repeat (first | refine blk_drewN ?_ _ | refine blk_drew ?_ | refine blk_alloc ?_ _)); refine blk_far ?_ NB389_396.out _; (with_reducible repeat (first | refine blk_drewN ?_ _ | refine blk_drew ?_ | refine blk_alloc ?_ _)); refine blk_far ?_ NB389_396.out _; (with_reducible repeat (first | refine blk_drewN ?_ _ | refine blk_drew ?_ | refine blk_alloc ?_ _)); refine blk_far ?_ NB389_396.out _; (with_reducible repeat (first | refine blk_drewN ?_ _ | refine blk_drew ?_ | refine blk_alloc ?_ _)); refine blk_far ?_ NB389_396.out _; (with_reducible repeat (first | refine blk_drewN ?_ _ | refine blk_drew ?_ | refine blk_alloc ?_ _)); exact BK389.out⟩, ⟨by repeat (first | (with_reducible first | exact HB.out | apply below_alloc | apply pw_below_drewN | apply below_drew1 | refine below_set ?_ GE389.out | refine below_set ?_ GE396.out) | exact HB.out)⟩⟩
                          · replace c37 := Bool.eq_false_iff.mpr c37
                            subst c37
                            have H1 : (wishbooklaw10_sound.l1 kj27 false (wrap64 (x5_3 + 1)) l0_0 l0_1 l0_2) = some r := by rw [if_neg (show ¬ (false = true) by decide)] at H; exact H
                            clear H
                            have H := H1
                            clear H1
                            have H' := Aside0.mk H
                            clear H
                            have hcz58_0 : wc.cell? ⟨gb389, 0, none⟩ = some (.slice A0_0 l0_0.length c0_0) := (blk_cell BK389.out 0).trans rfl
                            have hcz58_1 : wc.cell? ⟨gb389, 1, none⟩ = some (.slice A0_1 l0_1.length c0_1) := (blk_cell BK389.out 1).trans rfl
                            have hcz58_2 : wc.cell? ⟨gb389, 2, none⟩ = some (.slice A0_2 l0_2.length c0_2) := (blk_cell BK389.out 2).trans rfl
                            have hfz58_0 := blk_frozen BK389.out 0
                            have hfz58_1 := blk_frozen BK389.out 1
                            have hfz58_2 := blk_frozen BK389.out 2
                            have p395 : 0 ≤ (x5_3 : Int) := of_decide_eq_true (by first | (with_reducible assumption) | assumption)
                            have q395 : x5_3 < (l0_1.length : Int) := of_decide_eq_true (by first | (with_reducible assumption) | assumption)
                            obtain ⟨ad395, e395, hx395_0, hx395_1, hx395_2, hx395_3, hx395_4⟩ := at_T47 HR0_1.out x5_3 p395 q395
                            cases e395
                            replace hx395_0 := (HB.out.cell (World.block_lt_of_cell? w _ hx395_0)).trans hx395_0
                            replace hx395_1 := (HB.out.cell (World.block_lt_of_cell? w _ hx395_1)).trans hx395_1
                            replace hx395_2 := (HB.out.cell (World.block_lt_of_cell? w _ hx395_2)).trans hx395_2
                            replace hx395_3 := (HB.out.cell (World.block_lt_of_cell? w _ hx395_3)).trans hx395_3
                            replace hx395_4 := (HB.out.cell (World.block_lt_of_cell? w _ hx395_4)).trans hx395_4
                            replace p395 := eq_true p395
                            replace q395 := eq_true q395
                            go_wp2_with (first | ((with_reducible refine gate_dst (N := 6) rfl ?_); (try (refine gate_guard (by rfl) ?_; dsimp only)); refine box_event ?hg (N := 6) ?hd (cs := #[.int .i64 0, .int .i64 0, .int .i64 0, .int .i64 0, .int .i64 0]) (t := 47) ?hr ?_; (case hd => rfl); (case hg => rfl); (case hr => first | (go_simp; done) | (go_simp; rfl)); intro gb396 hg w59 hbox hb; have n0_ := Aside0.mk (blk_below (g := gb389) (o := .cells #[.slice A0_0 l0_0.length c0_0, .slice (some ad395) l0_1.length c0_1, .slice A0_2 l0_2.length c0_2] 26 (0, 0)) (by (with_reducible repeat (first | refine blk_drewN ?_ _ | refine blk_drew ?_ | refine blk_alloc ?_ _)); exact BK389.out) hb); have n1_ := Aside0.mk (below_step (by repeat (first | (with_reducible first | exact HB.out | apply below_alloc | apply pw_below_drewN | apply below_drew1 | refine below_set ?_ GE389.out) | exact HB.out)) hb); have n2_ := Aside0.mk (hbox); have n3_ := Aside0.mk ((by rw [hg]; exact (below_size (by repeat (first | (with_reducible first | exact HB.out | apply below_alloc | apply pw_below_drewN | apply below_drew1 | refine below_set ?_ GE389.out) | exact HB.out))) : w.heap.size ≤ gb396)); have n4_ := Aside0.mk ((by rw [hg]; exact (below_size (by repeat (first | (with_reducible first | exact HB.out | apply below_alloc | apply pw_below_drewN | apply below_drew1 | refine below_set ?_ GE389.out) | exact HB.out))) : w.heap.size ≤ gb396)); have n5_ := Aside0.mk ((by rw [hg]; exact Nat.ne_of_lt (blk_lt (g := gb389) (o := .cells #[.slice A0_0 l0_0.length c0_0, .slice (some ad395) l0_1.length c0_1, .slice A0_2 l0_2.length c0_2] 26 (0, 0)) (by (with_reducible repeat (first | refine blk_drewN ?_ _ | refine blk_drew ?_ | refine blk_alloc ?_ _)); exact BK389.out)) : gb389 ≠ gb396)); have n6_ := Aside0.mk ((by rw [hg]; exact Nat.ne_of_gt (blk_lt (g := gb389) (o := .cells #[.slice A0_0 l0_0.length c0_0, .slice (some ad395) l0_1.length c0_1, .slice A0_2 l0_2.length c0_2] 26 (0, 0)) (by (with_reducible repeat (first | refine blk_drewN ?_ _ | refine blk_drew ?_ | refine blk_alloc ?_ _)); exact BK389.out)) : gb396 ≠ gb389)); clear BK389; clear HB; have BK389 := n0_; have HB := n1_; have BK396 := n2_; have GW396 := n3_; have GE396 := n4_; have NB389_396 := n5_; have NB396_389 := n6_; clear n0_ n1_ n2_ n3_ n4_ n5_ n6_; clear hb hbox hg; have hnb60 := NB396_389.out; have hnc60 := NB389_396.out; have hcz61_0 : w59.cell? ⟨gb396, 0, none⟩ = some (.int .i64 0) := (blk_cell BK396.out 0).trans rfl; have hcz61_1 : w59.cell? ⟨gb396, 1, none⟩ = some (.int .i64 0) := (blk_cell BK396.out 1).trans rfl; have hcz61_2 : w59.cell? ⟨gb396, 2, none⟩ = some (.int .i64 0) := (blk_cell BK396.out 2).trans rfl; have hcz61_3 : w59.cell? ⟨gb396, 3, none⟩ = some (.int .i64 0) := (blk_cell BK396.out 3).trans rfl; have hcz61_4 : w59.cell? ⟨gb396, 4, none⟩ = some (.int .i64 0) := (blk_cell BK396.out 4).trans rfl; have hfz61_0 := blk_frozen BK396.out 0; have hfz61_1 := blk_frozen BK396.out 1; have hfz61_2 := blk_frozen BK396.out 2; have hfz61_3 := blk_frozen BK396.out 3; have hfz61_4 := blk_frozen BK396.out 4) | ((with_reducible refine gate_callee (f := 34) rfl ?_); refine goesL_ (some 63) rfl rfl Tryd.func34 (by kernel_rfl) rfl #[.int .i64 ((rd_T47 l0_1 x5_3).f0), .int .i64 0, .int .i64 9] rfl (by (try simp only [List.map_toArray, List.map_cons, List.map_nil]); first | done | rfl | (simp only [List.length_drop, List.length_take]; rfl)) ?_; (with_reducible refine (wishbookref00_Tween.calls ((rd_T47 l0_1 x5_3).f0) 0 9 true _ A34.out).mono ?_); rintro e w' ⟨rfl, ⟨nd, rfl⟩⟩; refine ⟨_, rfl, ?_⟩; have hcz62_0 : w59.cell? ⟨gb389, 0, none⟩ = some (.slice A0_0 l0_0.length c0_0) := (blk_cell BK389.out 0).trans rfl; have hcz62_1 : w59.cell? ⟨gb389, 1, none⟩ = some (.slice (some ad395) l0_1.length c0_1) := (blk_cell BK389.out 1).trans rfl; have hcz62_2 : w59.cell? ⟨gb389, 2, none⟩ = some (.slice A0_2 l0_2.length c0_2) := (blk_cell BK389.out 2).trans rfl; have hfz62_0 := blk_frozen BK389.out 0; have hfz62_1 := blk_frozen BK389.out 1; have hfz62_2 := blk_frozen BK389.out 2) | (go_at_call 34; (with_reducible refine (wishbookref00_Tween.calls ((rd_T47 l0_1 x5_3).f1) 0 (wrap64 ((l0_0.length : Int) - 1)) false _ A36.out).mono ?_); rintro e w' ⟨rfl, ⟨nd, rfl⟩⟩))
                            go_roundg kj27
                            case measure => have := HJ1.out; have := HJ20.out; have := HK3.out; have := HJ27.out; omega
                            case rel => exact ⟨(false), (wrap64 (x5_3 + 1)), (by first | rfl | (simp; done) | (simp [*]; done)), (by first | rfl | (simp; done) | (simp [*]; done)), H', ⟨by have := HJ1.out; have := HJ20.out; have := HK3.out; have := HJ27.out; omega⟩, ⟨by (with_reducible repeat (first | refine blk_drewN ?_ _ | refine blk_drew ?_ | refine blk_alloc ?_ _)); refine blk_far ?_ NB389_396.out _; (with_reducible repeat (first | refine blk_drewN ?_ _ | refine blk_drew ?_ | refine blk_alloc ?_ _)); refine blk_far ?_ NB389_396.out _; (with_reducible repeat (first | refine blk_drewN ?_ _ | refine blk_drew ?_ | refine blk_alloc ?_ _)); refine blk_far ?_ NB389_396.out _; (with_reducible repeat (first | refine blk_drewN ?_ _ | refine blk_drew ?_ | refine blk_alloc ?_ _)); refine blk_far ?_ NB389_396.out _; (with_reducible repeat (first | refine blk_drewN ?_ _ | refine blk_drew ?_ | refine blk_alloc ?_ _)); refine blk_far ?_ NB389_396.out _; (with_reducible repeat (first | refine blk_drewN ?_ _ | refine blk_drew ?_ | refine blk_alloc ?_ _)); exact BK389.out⟩, ⟨by repeat (first | (with_reducible first | exact HB.out | apply below_alloc | apply pw_below_drewN | apply below_drew1 | refine below_set ?_ GE389.out | refine below_set ?_ GE396.out) | exact HB.out)⟩⟩
                        · replace c35 := Bool.eq_false_iff.mpr c35
                          subst c35
                          have H1 : (wishbooklaw10_sound.l1 kj27 false (wrap64 (x5_3 + 1)) l0_0 l0_1 l0_2) = some r := by rw [if_neg (show ¬ (false = true) by decide)] at H; exact H
                          clear H
                          have H := H1
                          clear H1
                          have H' := Aside0.mk H
                          clear H
                          have hcz63_0 : wc.cell? ⟨gb389, 0, none⟩ = some (.slice A0_0 l0_0.length c0_0) := (blk_cell BK389.out 0).trans rfl
                          have hcz63_1 : wc.cell? ⟨gb389, 1, none⟩ = some (.slice A0_1 l0_1.length c0_1) := (blk_cell BK389.out 1).trans rfl
                          have hcz63_2 : wc.cell? ⟨gb389, 2, none⟩ = some (.slice A0_2 l0_2.length c0_2) := (blk_cell BK389.out 2).trans rfl
                          have hfz63_0 := blk_frozen BK389.out 0
                          have hfz63_1 := blk_frozen BK389.out 1
                          have hfz63_2 := blk_frozen BK389.out 2
                          have p395 : 0 ≤ (x5_3 : Int) := of_decide_eq_true (by first | (with_reducible assumption) | assumption)
                          have q395 : x5_3 < (l0_1.length : Int) := of_decide_eq_true (by first | (with_reducible assumption) | assumption)
                          obtain ⟨ad395, e395, hx395_0, hx395_1, hx395_2, hx395_3, hx395_4⟩ := at_T47 HR0_1.out x5_3 p395 q395
                          cases e395
                          replace hx395_0 := (HB.out.cell (World.block_lt_of_cell? w _ hx395_0)).trans hx395_0
                          replace hx395_1 := (HB.out.cell (World.block_lt_of_cell? w _ hx395_1)).trans hx395_1
                          replace hx395_2 := (HB.out.cell (World.block_lt_of_cell? w _ hx395_2)).trans hx395_2
                          replace hx395_3 := (HB.out.cell (World.block_lt_of_cell? w _ hx395_3)).trans hx395_3
                          replace hx395_4 := (HB.out.cell (World.block_lt_of_cell? w _ hx395_4)).trans hx395_4
                          replace p395 := eq_true p395
                          replace q395 := eq_true q395
                          go_wp2_with (first | ((with_reducible refine gate_dst (N := 6) rfl ?_); (try (refine gate_guard (by rfl) ?_; dsimp only)); refine box_event ?hg (N := 6) ?hd (cs := #[.int .i64 0, .int .i64 0, .int .i64 0, .int .i64 0, .int .i64 0]) (t := 47) ?hr ?_; (case hd => rfl); (case hg => rfl); (case hr => first | (go_simp; done) | (go_simp; rfl)); intro gb396 hg w64 hbox hb; have n0_ := Aside0.mk (blk_below (g := gb389) (o := .cells #[.slice A0_0 l0_0.length c0_0, .slice (some ad395) l0_1.length c0_1, .slice A0_2 l0_2.length c0_2] 26 (0, 0)) (by (with_reducible repeat (first | refine blk_drewN ?_ _ | refine blk_drew ?_ | refine blk_alloc ?_ _)); exact BK389.out) hb); have n1_ := Aside0.mk (below_step (by repeat (first | (with_reducible first | exact HB.out | apply below_alloc | apply pw_below_drewN | apply below_drew1 | refine below_set ?_ GE389.out) | exact HB.out)) hb); have n2_ := Aside0.mk (hbox); have n3_ := Aside0.mk ((by rw [hg]; exact (below_size (by repeat (first | (with_reducible first | exact HB.out | apply below_alloc | apply pw_below_drewN | apply below_drew1 | refine below_set ?_ GE389.out) | exact HB.out))) : w.heap.size ≤ gb396)); have n4_ := Aside0.mk ((by rw [hg]; exact (below_size (by repeat (first | (with_reducible first | exact HB.out | apply below_alloc | apply pw_below_drewN | apply below_drew1 | refine below_set ?_ GE389.out) | exact HB.out))) : w.heap.size ≤ gb396)); have n5_ := Aside0.mk ((by rw [hg]; exact Nat.ne_of_lt (blk_lt (g := gb389) (o := .cells #[.slice A0_0 l0_0.length c0_0, .slice (some ad395) l0_1.length c0_1, .slice A0_2 l0_2.length c0_2] 26 (0, 0)) (by (with_reducible repeat (first | refine blk_drewN ?_ _ | refine blk_drew ?_ | refine blk_alloc ?_ _)); exact BK389.out)) : gb389 ≠ gb396)); have n6_ := Aside0.mk ((by rw [hg]; exact Nat.ne_of_gt (blk_lt (g := gb389) (o := .cells #[.slice A0_0 l0_0.length c0_0, .slice (some ad395) l0_1.length c0_1, .slice A0_2 l0_2.length c0_2] 26 (0, 0)) (by (with_reducible repeat (first | refine blk_drewN ?_ _ | refine blk_drew ?_ | refine blk_alloc ?_ _)); exact BK389.out)) : gb396 ≠ gb389)); clear BK389; clear HB; have BK389 := n0_; have HB := n1_; have BK396 := n2_; have GW396 := n3_; have GE396 := n4_; have NB389_396 := n5_; have NB396_389 := n6_; clear n0_ n1_ n2_ n3_ n4_ n5_ n6_; clear hb hbox hg; have hnb65 := NB396_389.out; have hnc65 := NB389_396.out; have hcz66_0 : w64.cell? ⟨gb396, 0, none⟩ = some (.int .i64 0) := (blk_cell BK396.out 0).trans rfl; have hcz66_1 : w64.cell? ⟨gb396, 1, none⟩ = some (.int .i64 0) := (blk_cell BK396.out 1).trans rfl; have hcz66_2 : w64.cell? ⟨gb396, 2, none⟩ = some (.int .i64 0) := (blk_cell BK396.out 2).trans rfl; have hcz66_3 : w64.cell? ⟨gb396, 3, none⟩ = some (.int .i64 0) := (blk_cell BK396.out 3).trans rfl; have hcz66_4 : w64.cell? ⟨gb396, 4, none⟩ = some (.int .i64 0) := (blk_cell BK396.out 4).trans rfl; have hfz66_0 := blk_frozen BK396.out 0; have hfz66_1 := blk_frozen BK396.out 1; have hfz66_2 := blk_frozen BK396.out 2; have hfz66_3 := blk_frozen BK396.out 3; have hfz66_4 := blk_frozen BK396.out 4) | ((with_reducible refine gate_callee (f := 34) rfl ?_); refine goesL_ (some 63) rfl rfl Tryd.func34 (by kernel_rfl) rfl #[.int .i64 ((rd_T47 l0_1 x5_3).f0), .int .i64 0, .int .i64 9] rfl (by (try simp only [List.map_toArray, List.map_cons, List.map_nil]); first | done | rfl | (simp only [List.length_drop, List.length_take]; rfl)) ?_; (with_reducible refine (wishbookref00_Tween.calls ((rd_T47 l0_1 x5_3).f0) 0 9 false _ A34.out).mono ?_); rintro e w' ⟨rfl, ⟨nd, rfl⟩⟩; refine ⟨_, rfl, ?_⟩))
                          go_roundg kj27
                          case measure => have := HJ1.out; have := HJ20.out; have := HK3.out; have := HJ27.out; omega
                          case rel => exact ⟨(false), (wrap64 (x5_3 + 1)), (by first | rfl | (simp; done) | (simp [*]; done)), (by first | rfl | (simp; done) | (simp [*]; done)), H', ⟨by have := HJ1.out; have := HJ20.out; have := HK3.out; have := HJ27.out; omega⟩, ⟨by (with_reducible repeat (first | refine blk_drewN ?_ _ | refine blk_drew ?_ | refine blk_alloc ?_ _)); refine blk_far ?_ NB389_396.out _; (with_reducible repeat (first | refine blk_drewN ?_ _ | refine blk_drew ?_ | refine blk_alloc ?_ _)); refine blk_far ?_ NB389_396.out _; (with_reducible repeat (first | refine blk_drewN ?_ _ | refine blk_drew ?_ | refine blk_alloc ?_ _)); refine blk_far ?_ NB389_396.out _; (with_reducible repeat (first | refine blk_drewN ?_ _ | refine blk_drew ?_ | refine blk_alloc ?_ _)); refine blk_far ?_ NB389_396.out _; (with_reducible repeat (first | refine blk_drewN ?_ _ | refine blk_drew ?_ | refine blk_alloc ?_ _)); refine blk_far ?_ NB389_396.out _; (with_reducible repeat (first | refine blk_drewN ?_ _ | refine blk_drew ?_ | refine blk_alloc ?_ _)); exact BK389.out⟩, ⟨by repeat (first | (with_reducible first | exact HB.out | apply below_alloc | apply pw_below_drewN | apply below_drew1 | refine below_set ?_ GE389.out | refine below_set ?_ GE396.out) | exact HB.out)⟩⟩
                      · rw [if_neg c33] at H
                        exact absurd H (by simp)
                    · rw [if_neg c32] at H
                      exact absurd H (by simp)
                  · replace c31 := Bool.eq_false_iff.mpr c31
                    subst c31
                    have H1 : (wishbooklaw10_sound.l2 kj27 x3_3 0 l0_0 l0_1 l0_2) = some r := by rw [if_neg (show ¬ (false = true) by decide)] at H; exact H
                    clear H
                    have H := H1
                    clear H1
                    have H' := Aside0.mk H
                    clear H
                    go_wp2
                    go_loopg [3, 7] kj27 (fun kq v3 v7 w' => ∃ (x3_5 : Bool) (x7_5 : Int), v3 = .bool x3_5 ∧ v7 = .int .i64 x7_5 ∧ Aside0 (wishbooklaw10_sound.l2 kq x3_5 x7_5 l0_0 l0_1 l0_2 = some r) ∧ Aside0 (kq ≤ kj27) ∧ Aside0 (w'.heap[gb389]? = some (.cells #[(.slice A0_0 l0_0.length c0_0), (.slice A0_1 l0_1.length c0_1), (.slice A0_2 l0_2.length c0_2)] 26 (0, 0))) ∧ Aside0 (Below w.heap.size w w'))
                    case atStart => exact ⟨(x3_3), (0), (by first | rfl | (simp; done) | (simp [*]; done)), (by first | rfl | (simp; done) | (simp [*]; done)), H', ⟨Nat.le_refl _⟩, ⟨by (with_reducible repeat (first | refine blk_drewN ?_ _ | refine blk_drew ?_ | refine blk_alloc ?_ _)); exact BK389.out⟩, ⟨by repeat (first | (with_reducible first | exact HB.out | apply below_alloc | apply pw_below_drewN | apply below_drew1 | refine below_set ?_ GE389.out) | exact HB.out)⟩⟩
                    case round =>
                      clear H'
                      try clear c2
                      try clear p2
                      try clear c3
                      try clear p3
                      try clear q3
                      try clear hx3
                      try clear c4
                      try clear c5
                      try clear c5b0
                      try clear c5b1
                      try clear c6
                      try clear p6
                      try clear c7
                      try clear c9
                      try clear c22
                      try clear c23
                      try clear c23b0
                      try clear c24
                      try clear c24b0
                      try clear c29
                      try clear c30
                      try clear c31
                      try clear c32
                      try clear c32b0
                      try clear c33
                      try clear c33b0
                      try clear c34
                      try clear c35
                      try clear c37
                      try clear c39
                      try clear p39
                      try clear q39
                      try clear hx39
                      try clear c41
                      try clear c45
                      try clear c50
                      try clear c55
                      try clear c60
                      try clear p64
                      try clear c65
                      try clear hcz10_0
                      try clear hcz10_1
                      try clear hcz10_2
                      try clear hcz12_0
                      try clear hcz12_1
                      try clear hcz12_2
                      try clear hcz13_0
                      try clear hcz13_1
                      try clear hcz13_2
                      try clear hcz15_0
                      try clear hcz15_1
                      try clear hcz15_2
                      try clear hcz16_0
                      try clear hcz16_1
                      try clear hcz16_2
                      try clear hcz18_0
                      try clear hcz18_1
                      try clear hcz18_2
                      try clear hcz19_0
                      try clear hcz19_1
                      try clear hcz19_2
                      try clear hcz26_0
                      try clear hcz26_1
                      try clear hcz26_2
                      try clear hcz27_0
                      try clear hcz27_1
                      try clear hcz27_2
                      try clear hcz30_0
                      try clear hcz30_1
                      try clear hcz30_2
                      try clear hcz43_0
                      try clear hcz43_1
                      try clear hcz43_2
                      try clear hcz46_0
                      try clear hcz46_1
                      try clear hcz46_2
                      try clear hcz46_3
                      try clear hcz46_4
                      try clear hcz47_0
                      try clear hcz47_1
                      try clear hcz47_2
                      try clear hcz48_0
                      try clear hcz48_1
                      try clear hcz48_2
                      try clear hcz51_0
                      try clear hcz51_1
                      try clear hcz51_2
                      try clear hcz51_3
                      try clear hcz51_4
                      try clear hcz52_0
                      try clear hcz52_1
                      try clear hcz52_2
                      try clear hcz53_0
                      try clear hcz53_1
                      try clear hcz53_2
                      try clear hcz56_0
                      try clear hcz56_1
                      try clear hcz56_2
                      try clear hcz56_3
                      try clear hcz56_4
                      try clear hcz57_0
                      try clear hcz57_1
                      try clear hcz57_2
                      try clear hcz58_0
                      try clear hcz58_1
                      try clear hcz58_2
                      try clear hcz61_0
                      try clear hcz61_1
                      try clear hcz61_2
                      try clear hcz61_3
                      try clear hcz61_4
                      try clear hcz62_0
                      try clear hcz62_1
                      try clear hcz62_2
                      try clear hcz63_0
                      try clear hcz63_1
                      try clear hcz63_2
                      try clear hcz66_0
                      try clear hcz66_1
                      try clear hcz66_2
                      try clear hcz66_3
                      try clear hcz66_4
                      try clear hfz10_0
                      try clear hfz10_1
                      try clear hfz10_2
                      try clear hfz12_0
                      try clear hfz12_1
                      try clear hfz12_2
                      try clear hfz13_0
                      try clear hfz13_1
                      try clear hfz13_2
                      try clear hfz15_0
                      try clear hfz15_1
                      try clear hfz15_2
                      try clear hfz16_0
                      try clear hfz16_1
                      try clear hfz16_2
                      try clear hfz18_0
                      try clear hfz18_1
                      try clear hfz18_2
                      try clear hfz19_0
                      try clear hfz19_1
                      try clear hfz19_2
                      try clear hfz26_0
                      try clear hfz26_1
                      try clear hfz26_2
                      try clear hfz27_0
                      try clear hfz27_1
                      try clear hfz27_2
                      try clear hfz30_0
                      try clear hfz30_1
                      try clear hfz30_2
                      try clear hfz43_0
                      try clear hfz43_1
                      try clear hfz43_2
                      try clear hfz46_0
                      try clear hfz46_1
                      try clear hfz46_2
                      try clear hfz46_3
                      try clear hfz46_4
                      try clear hfz47_0
                      try clear hfz47_1
                      try clear hfz47_2
                      try clear hfz48_0
                      try clear hfz48_1
                      try clear hfz48_2
                      try clear hfz51_0
                      try clear hfz51_1
                      try clear hfz51_2
                      try clear hfz51_3
                      try clear hfz51_4
                      try clear hfz52_0
                      try clear hfz52_1
                      try clear hfz52_2
                      try clear hfz53_0
                      try clear hfz53_1
                      try clear hfz53_2
                      try clear hfz56_0
                      try clear hfz56_1
                      try clear hfz56_2
                      try clear hfz56_3
                      try clear hfz56_4
                      try clear hfz57_0
                      try clear hfz57_1
                      try clear hfz57_2
                      try clear hfz58_0
                      try clear hfz58_1
                      try clear hfz58_2
                      try clear hfz61_0
                      try clear hfz61_1
                      try clear hfz61_2
                      try clear hfz61_3
                      try clear hfz61_4
                      try clear hfz62_0
                      try clear hfz62_1
                      try clear hfz62_2
                      try clear hfz63_0
                      try clear hfz63_1
                      try clear hfz63_2
                      try clear hfz66_0
                      try clear hfz66_1
                      try clear hfz66_2
                      try clear hfz66_3
                      try clear hfz66_4
                      try clear hx393_0
                      try clear hx395_0
                      try clear hx395_1
                      try clear hx395_2
                      try clear hx395_3
                      try clear hx395_4
                      try clear p2
                      try clear p3
                      try clear p393
                      try clear p395
                      try clear p6
                      try clear q3
                      try clear q393
                      try clear q395
                      obtain ⟨x3_5, x7_5, rfl, rfl, HA, HK5, BK389, HB⟩ := hrel
                      cases gk with
                      | zero => exact absurd HA.out (by simp [wishbooklaw10_sound.l2])
                      | succ k5 =>
                        have H := HA.out
                        clear HA
                        simp only [wishbooklaw10_sound.l2] at H
                        have HC67 := Aside0.mk H
                        clear H
                        go_upto_region 12 with (fail)
                        go_cut [99] (fun v99 wc => ∃ (kq : Nat) (x99_66 : Bool), v99 = .bool x99_66 ∧ Aside0 (wishbooklaw10_sound.j6 kq x3_5 x7_5 x99_66 l0_0 l0_1 l0_2 = some r) ∧ Aside0 (kq ≤ k5) ∧ Aside0 (wc.heap[gb389]? = some (.cells #[(.slice A0_0 l0_0.length c0_0), (.slice A0_1 l0_1.length c0_1), (.slice A0_2 l0_2.length c0_2)] 26 (0, 0))) ∧ Aside0 (Below w.heap.size w wc))
                        case first =>
                          have H := HC67.out
                          clear HC67
                          by_cases c68 : x3_5 = true
                          · subst c68
                            have H1 : (wishbooklaw10_sound.j6 k5 true x7_5 (decide (x7_5 < (l0_2.length : Int))) l0_0 l0_1 l0_2) = some r := by rw [if_pos rfl] at H; exact H
                            clear H
                            have H := H1
                            clear H1
                            have H' := Aside0.mk H
                            clear H
                            have hcz69_0 : wr.cell? ⟨gb389, 0, none⟩ = some (.slice A0_0 l0_0.length c0_0) := (blk_cell BK389.out 0).trans rfl
                            have hcz69_1 : wr.cell? ⟨gb389, 1, none⟩ = some (.slice A0_1 l0_1.length c0_1) := (blk_cell BK389.out 1).trans rfl
                            have hcz69_2 : wr.cell? ⟨gb389, 2, none⟩ = some (.slice A0_2 l0_2.length c0_2) := (blk_cell BK389.out 2).trans rfl
                            have hfz69_0 := blk_frozen BK389.out 0
                            have hfz69_1 := blk_frozen BK389.out 1
                            have hfz69_2 := blk_frozen BK389.out 2
                            go_wp2
                            go_meet
                            case rel => exact ⟨_, (decide (x7_5 < (l0_2.length : Int))), (by first | rfl | (simp; done) | (simp [*]; done)), H', ⟨by have := HJ1.out; have := HJ20.out; have := HK3.out; have := HJ27.out; have := HK5.out; first | omega | exact Nat.le_refl _⟩, ⟨by (with_reducible repeat (first | refine blk_drewN ?_ _ | refine blk_drew ?_ | refine blk_alloc ?_ _)); exact BK389.out⟩, ⟨by repeat (first | (with_reducible first | exact HB.out | apply below_alloc | apply pw_below_drewN | apply below_drew1 | refine below_set ?_ GE389.out) | exact HB.out)⟩⟩
                          · replace c68 := Bool.eq_false_iff.mpr c68
                            subst c68
                            have H1 : (wishbooklaw10_sound.j6 k5 false x7_5 false l0_0 l0_1 l0_2) = some r := by rw [if_neg (show ¬ (false = true) by decide)] at H; exact H
                            clear H
                            have H := H1
                            clear H1
                            have H' := Aside0.mk H
                            clear H
                            go_wp2
                            go_meet
                            case rel => exact ⟨_, (false), (by first | rfl | (simp; done) | (simp [*]; done)), H', ⟨by have := HJ1.out; have := HJ20.out; have := HK3.out; have := HJ27.out; have := HK5.out; first | omega | exact Nat.le_refl _⟩, ⟨by (with_reducible repeat (first | refine blk_drewN ?_ _ | refine blk_drew ?_ | refine blk_alloc ?_ _)); exact BK389.out⟩, ⟨by repeat (first | (with_reducible first | exact HB.out | apply below_alloc | apply pw_below_drewN | apply below_drew1 | refine below_set ?_ GE389.out) | exact HB.out)⟩⟩
                        case rest =>
                          clear HC67
                          try clear c2
                          try clear p2
                          try clear c3
                          try clear p3
                          try clear q3
                          try clear hx3
                          try clear c4
                          try clear c5
                          try clear c5b0
                          try clear c5b1
                          try clear c6
                          try clear p6
                          try clear c7
                          try clear c9
                          try clear c22
                          try clear c23
                          try clear c23b0
                          try clear c24
                          try clear c24b0
                          try clear c29
                          try clear c30
                          try clear c31
                          try clear c32
                          try clear c32b0
                          try clear c33
                          try clear c33b0
                          try clear c34
                          try clear c35
                          try clear c37
                          try clear c39
                          try clear p39
                          try clear q39
                          try clear hx39
                          try clear c41
                          try clear c45
                          try clear c50
                          try clear c55
                          try clear c60
                          try clear p64
                          try clear c65
                          try clear c68
                          try clear hcz10_0
                          try clear hcz10_1
                          try clear hcz10_2
                          try clear hcz12_0
                          try clear hcz12_1
                          try clear hcz12_2
                          try clear hcz13_0
                          try clear hcz13_1
                          try clear hcz13_2
                          try clear hcz15_0
                          try clear hcz15_1
                          try clear hcz15_2
                          try clear hcz16_0
                          try clear hcz16_1
                          try clear hcz16_2
                          try clear hcz18_0
                          try clear hcz18_1
                          try clear hcz18_2
                          try clear hcz19_0
                          try clear hcz19_1
                          try clear hcz19_2
                          try clear hcz26_0
                          try clear hcz26_1
                          try clear hcz26_2
                          try clear hcz27_0
                          try clear hcz27_1
                          try clear hcz27_2
                          try clear hcz30_0
                          try clear hcz30_1
                          try clear hcz30_2
                          try clear hcz43_0
                          try clear hcz43_1
                          try clear hcz43_2
                          try clear hcz46_0
                          try clear hcz46_1
                          try clear hcz46_2
                          try clear hcz46_3
                          try clear hcz46_4
                          try clear hcz47_0
                          try clear hcz47_1
                          try clear hcz47_2
                          try clear hcz48_0
                          try clear hcz48_1
                          try clear hcz48_2
                          try clear hcz51_0
                          try clear hcz51_1
                          try clear hcz51_2
                          try clear hcz51_3
                          try clear hcz51_4
                          try clear hcz52_0
                          try clear hcz52_1
                          try clear hcz52_2
                          try clear hcz53_0
                          try clear hcz53_1
                          try clear hcz53_2
                          try clear hcz56_0
                          try clear hcz56_1
                          try clear hcz56_2
                          try clear hcz56_3
                          try clear hcz56_4
                          try clear hcz57_0
                          try clear hcz57_1
                          try clear hcz57_2
                          try clear hcz58_0
                          try clear hcz58_1
                          try clear hcz58_2
                          try clear hcz61_0
                          try clear hcz61_1
                          try clear hcz61_2
                          try clear hcz61_3
                          try clear hcz61_4
                          try clear hcz62_0
                          try clear hcz62_1
                          try clear hcz62_2
                          try clear hcz63_0
                          try clear hcz63_1
                          try clear hcz63_2
                          try clear hcz66_0
                          try clear hcz66_1
                          try clear hcz66_2
                          try clear hcz66_3
                          try clear hcz66_4
                          try clear hcz69_0
                          try clear hcz69_1
                          try clear hcz69_2
                          try clear hfz10_0
                          try clear hfz10_1
                          try clear hfz10_2
                          try clear hfz12_0
                          try clear hfz12_1
                          try clear hfz12_2
                          try clear hfz13_0
                          try clear hfz13_1
                          try clear hfz13_2
                          try clear hfz15_0
                          try clear hfz15_1
                          try clear hfz15_2
                          try clear hfz16_0
                          try clear hfz16_1
                          try clear hfz16_2
                          try clear hfz18_0
                          try clear hfz18_1
                          try clear hfz18_2
                          try clear hfz19_0
                          try clear hfz19_1
                          try clear hfz19_2
                          try clear hfz26_0
                          try clear hfz26_1
                          try clear hfz26_2
                          try clear hfz27_0
                          try clear hfz27_1
                          try clear hfz27_2
                          try clear hfz30_0
                          try clear hfz30_1
                          try clear hfz30_2
                          try clear hfz43_0
                          try clear hfz43_1
                          try clear hfz43_2
                          try clear hfz46_0
                          try clear hfz46_1
                          try clear hfz46_2
                          try clear hfz46_3
                          try clear hfz46_4
                          try clear hfz47_0
                          try clear hfz47_1
                          try clear hfz47_2
                          try clear hfz48_0
                          try clear hfz48_1
                          try clear hfz48_2
                          try clear hfz51_0
                          try clear hfz51_1
                          try clear hfz51_2
                          try clear hfz51_3
                          try clear hfz51_4
                          try clear hfz52_0
                          try clear hfz52_1
                          try clear hfz52_2
                          try clear hfz53_0
                          try clear hfz53_1
                          try clear hfz53_2
                          try clear hfz56_0
                          try clear hfz56_1
                          try clear hfz56_2
                          try clear hfz56_3
                          try clear hfz56_4
                          try clear hfz57_0
                          try clear hfz57_1
                          try clear hfz57_2
                          try clear hfz58_0
                          try clear hfz58_1
                          try clear hfz58_2
                          try clear hfz61_0
                          try clear hfz61_1
                          try clear hfz61_2
                          try clear hfz61_3
                          try clear hfz61_4
                          try clear hfz62_0
                          try clear hfz62_1
                          try clear hfz62_2
                          try clear hfz63_0
                          try clear hfz63_1
                          try clear hfz63_2
                          try clear hfz66_0
                          try clear hfz66_1
                          try clear hfz66_2
                          try clear hfz66_3
                          try clear hfz66_4
                          try clear hfz69_0
                          try clear hfz69_1
                          try clear hfz69_2
                          try clear hx393_0
                          try clear hx395_0
                          try clear hx395_1
                          try clear hx395_2
                          try clear hx395_3
                          try clear hx395_4
                          try clear p2
                          try clear p3
                          try clear p39
                          try clear p393
                          try clear p395
                          try clear p6
                          try clear p64
                          try clear q3
                          try clear q39
                          try clear q393
                          try clear q395
                          obtain ⟨kq, x99_66, rfl, HA, HJ66, BK389, HB⟩ := hcut
                          cases kq with
                          | zero => exact absurd HA.out (by simp [wishbooklaw10_sound.j6])
                          | succ kj66 =>
                            have H := HA.out
                            clear HA
                            simp only [wishbooklaw10_sound.j6] at H
                            by_cases c70 : x99_66 = true
                            · subst c70
                              have H1 : (if 0 ≤ x7_5 then (if x7_5 < (l0_2.length : Int) then ((wishbookref00_Tween.f ((rd_T57 l0_2 x7_5).f0) 0 (wrap64 ((l0_0.length : Int) - 1))).bind fun t404 => (if t404 = true then ((wishbookref00_Proper.f ((rd_T57 l0_2 x7_5).f1.f0) ((rd_T57 l0_2 x7_5).f1.f1) 1 100).bind fun t405 => (if t405 = true then ((wishbookref00_Proper.f ((rd_T57 l0_2 x7_5).f2.f0) ((rd_T57 l0_2 x7_5).f2.f1) 0 50).bind fun t406 => (wishbooklaw10_sound.l2 kj66 t406 (wrap64 (x7_5 + 1)) l0_0 l0_1 l0_2)) else (wishbooklaw10_sound.l2 kj66 false (wrap64 (x7_5 + 1)) l0_0 l0_1 l0_2))) else (wishbooklaw10_sound.l2 kj66 false (wrap64 (x7_5 + 1)) l0_0 l0_1 l0_2))) else (none)) else (none)) = some r := by rw [if_pos rfl] at H; exact H
                              clear H
                              have H := H1
                              clear H1
                              by_cases c71 : 0 ≤ x7_5
                              · rw [if_pos c71] at H
                                have c71b0 : decide (0 ≤ x7_5) = true := decide_eq_true c71
                                clear c71
                                by_cases c72 : x7_5 < (l0_2.length : Int)
                                · rw [if_pos c72] at H
                                  have c72b0 : decide (x7_5 < (l0_2.length : Int)) = true := decide_eq_true c72
                                  clear c72
                                  replace H := Option.bind_eq_some_iff.mp H
                                  obtain ⟨t404, A730, H⟩ := H
                                  replace H : (if t404 = true then ((wishbookref00_Proper.f ((rd_T57 l0_2 x7_5).f1.f0) ((rd_T57 l0_2 x7_5).f1.f1) 1 100).bind fun t405 => (if t405 = true then ((wishbookref00_Proper.f ((rd_T57 l0_2 x7_5).f2.f0) ((rd_T57 l0_2 x7_5).f2.f1) 0 50).bind fun t406 => (wishbooklaw10_sound.l2 kj66 t406 (wrap64 (x7_5 + 1)) l0_0 l0_1 l0_2)) else (wishbooklaw10_sound.l2 kj66 false (wrap64 (x7_5 + 1)) l0_0 l0_1 l0_2))) else (wishbooklaw10_sound.l2 kj66 false (wrap64 (x7_5 + 1)) l0_0 l0_1 l0_2)) = some r := H
                                  have A73 := Aside0.mk A730
                                  clear A730
                                  by_cases c74 : t404 = true
                                  · subst c74
                                    have H1 : ((wishbookref00_Proper.f ((rd_T57 l0_2 x7_5).f1.f0) ((rd_T57 l0_2 x7_5).f1.f1) 1 100).bind fun t405 => (if t405 = true then ((wishbookref00_Proper.f ((rd_T57 l0_2 x7_5).f2.f0) ((rd_T57 l0_2 x7_5).f2.f1) 0 50).bind fun t406 => (wishbooklaw10_sound.l2 kj66 t406 (wrap64 (x7_5 + 1)) l0_0 l0_1 l0_2)) else (wishbooklaw10_sound.l2 kj66 false (wrap64 (x7_5 + 1)) l0_0 l0_1 l0_2))) = some r := by rw [if_pos rfl] at H; exact H
                                    clear H
                                    have H := H1
                                    clear H1
                                    replace H := Option.bind_eq_some_iff.mp H
                                    obtain ⟨t405, A750, H⟩ := H
                                    replace H : (if t405 = true then ((wishbookref00_Proper.f ((rd_T57 l0_2 x7_5).f2.f0) ((rd_T57 l0_2 x7_5).f2.f1) 0 50).bind fun t406 => (wishbooklaw10_sound.l2 kj66 t406 (wrap64 (x7_5 + 1)) l0_0 l0_1 l0_2)) else (wishbooklaw10_sound.l2 kj66 false (wrap64 (x7_5 + 1)) l0_0 l0_1 l0_2)) = some r := H
                                    have A75 := Aside0.mk A750
                                    clear A750
                                    by_cases c76 : t405 = true
                                    · subst c76
                                      have H1 : ((wishbookref00_Proper.f ((rd_T57 l0_2 x7_5).f2.f0) ((rd_T57 l0_2 x7_5).f2.f1) 0 50).bind fun t406 => (wishbooklaw10_sound.l2 kj66 t406 (wrap64 (x7_5 + 1)) l0_0 l0_1 l0_2)) = some r := by rw [if_pos rfl] at H; exact H
                                      clear H
                                      have H := H1
                                      clear H1
                                      replace H := Option.bind_eq_some_iff.mp H
                                      obtain ⟨t406, A770, H⟩ := H
                                      replace H : (wishbooklaw10_sound.l2 kj66 t406 (wrap64 (x7_5 + 1)) l0_0 l0_1 l0_2) = some r := H
                                      have A77 := Aside0.mk A770
                                      clear A770
                                      have H' := Aside0.mk H
                                      clear H
                                      have hcz78_0 : wc.cell? ⟨gb389, 0, none⟩ = some (.slice A0_0 l0_0.length c0_0) := (blk_cell BK389.out 0).trans rfl
                                      have hcz78_1 : wc.cell? ⟨gb389, 1, none⟩ = some (.slice A0_1 l0_1.length c0_1) := (blk_cell BK389.out 1).trans rfl
                                      have hcz78_2 : wc.cell? ⟨gb389, 2, none⟩ = some (.slice A0_2 l0_2.length c0_2) := (blk_cell BK389.out 2).trans rfl
                                      have hfz78_0 := blk_frozen BK389.out 0
                                      have hfz78_1 := blk_frozen BK389.out 1
                                      have hfz78_2 := blk_frozen BK389.out 2
                                      have p402 : 0 ≤ (x7_5 : Int) := of_decide_eq_true (by first | (with_reducible assumption) | assumption)
                                      have q402 : x7_5 < (l0_2.length : Int) := of_decide_eq_true (by first | (with_reducible assumption) | assumption)
                                      obtain ⟨ad402, e402, hx402_0, hx402_1, hx402_2, hx402_3, hx402_4⟩ := at_T57 HR0_2.out x7_5 p402 q402
                                      cases e402
                                      replace hx402_0 := (HB.out.cell (World.block_lt_of_cell? w _ hx402_0)).trans hx402_0
                                      replace hx402_1 := (HB.out.cell (World.block_lt_of_cell? w _ hx402_1)).trans hx402_1
                                      replace hx402_2 := (HB.out.cell (World.block_lt_of_cell? w _ hx402_2)).trans hx402_2
                                      replace hx402_3 := (HB.out.cell (World.block_lt_of_cell? w _ hx402_3)).trans hx402_3
                                      replace hx402_4 := (HB.out.cell (World.block_lt_of_cell? w _ hx402_4)).trans hx402_4
                                      replace p402 := eq_true p402
                                      replace q402 := eq_true q402
                                      go_wp2_with (first | ((with_reducible refine gate_dst (N := 8) rfl ?_); (try (refine gate_guard (by rfl) ?_; dsimp only)); refine box_event ?hg (N := 8) ?hd (cs := #[.int .i64 0, .int .i64 0, .int .i64 0, .int .i64 0, .int .i64 0]) (t := 57) ?hr ?_; (case hd => rfl); (case hg => rfl); (case hr => first | (go_simp; done) | (go_simp; rfl)); intro gb403 hg w79 hbox hb; have n0_ := Aside0.mk (blk_below (g := gb389) (o := .cells #[.slice A0_0 l0_0.length c0_0, .slice A0_1 l0_1.length c0_1, .slice (some ad402) l0_2.length c0_2] 26 (0, 0)) (by (with_reducible repeat (first | refine blk_drewN ?_ _ | refine blk_drew ?_ | refine blk_alloc ?_ _)); exact BK389.out) hb); have n1_ := Aside0.mk (below_step (by repeat (first | (with_reducible first | exact HB.out | apply below_alloc | apply pw_below_drewN | apply below_drew1 | refine below_set ?_ GE389.out) | exact HB.out)) hb); have n2_ := Aside0.mk (hbox); have n3_ := Aside0.mk ((by rw [hg]; exact (below_size (by repeat (first | (with_reducible first | exact HB.out | apply below_alloc | apply pw_below_drewN | apply below_drew1 | refine below_set ?_ GE389.out) | exact HB.out))) : w.heap.size ≤ gb403)); have n4_ := Aside0.mk ((by rw [hg]; exact (below_size (by repeat (first | (with_reducible first | exact HB.out | apply below_alloc | apply pw_below_drewN | apply below_drew1 | refine below_set ?_ GE389.out) | exact HB.out))) : w.heap.size ≤ gb403)); have n5_ := Aside0.mk ((by rw [hg]; exact Nat.ne_of_lt (blk_lt (g := gb389) (o := .cells #[.slice A0_0 l0_0.length c0_0, .slice A0_1 l0_1.length c0_1, .slice (some ad402) l0_2.length c0_2] 26 (0, 0)) (by (with_reducible repeat (first | refine blk_drewN ?_ _ | refine blk_drew ?_ | refine blk_alloc ?_ _)); exact BK389.out)) : gb389 ≠ gb403)); have n6_ := Aside0.mk ((by rw [hg]; exact Nat.ne_of_gt (blk_lt (g := gb389) (o := .cells #[.slice A0_0 l0_0.length c0_0, .slice A0_1 l0_1.length c0_1, .slice (some ad402) l0_2.length c0_2] 26 (0, 0)) (by (with_reducible repeat (first | refine blk_drewN ?_ _ | refine blk_drew ?_ | refine blk_alloc ?_ _)); exact BK389.out)) : gb403 ≠ gb389)); clear BK389; clear HB; have BK389 := n0_; have HB := n1_; have BK403 := n2_; have GW403 := n3_; have GE403 := n4_; have NB389_403 := n5_; have NB403_389 := n6_; clear n0_ n1_ n2_ n3_ n4_ n5_ n6_; clear hb hbox hg; have hnb80 := NB403_389.out; have hnc80 := NB389_403.out; have hcz81_0 : w79.cell? ⟨gb403, 0, none⟩ = some (.int .i64 0) := (blk_cell BK403.out 0).trans rfl; have hcz81_1 : w79.cell? ⟨gb403, 1, none⟩ = some (.int .i64 0) := (blk_cell BK403.out 1).trans rfl; have hcz81_2 : w79.cell? ⟨gb403, 2, none⟩ = some (.int .i64 0) := (blk_cell BK403.out 2).trans rfl; have hcz81_3 : w79.cell? ⟨gb403, 3, none⟩ = some (.int .i64 0) := (blk_cell BK403.out 3).trans rfl; have hcz81_4 : w79.cell? ⟨gb403, 4, none⟩ = some (.int .i64 0) := (blk_cell BK403.out 4).trans rfl; have hfz81_0 := blk_frozen BK403.out 0; have hfz81_1 := blk_frozen BK403.out 1; have hfz81_2 := blk_frozen BK403.out 2; have hfz81_3 := blk_frozen BK403.out 3; have hfz81_4 := blk_frozen BK403.out 4; have hcz82_0 : w79.cell? ⟨gb389, 0, none⟩ = some (.slice A0_0 l0_0.length c0_0) := (blk_cell BK389.out 0).trans rfl; have hcz82_1 : w79.cell? ⟨gb389, 1, none⟩ = some (.slice A0_1 l0_1.length c0_1) := (blk_cell BK389.out 1).trans rfl; have hcz82_2 : w79.cell? ⟨gb389, 2, none⟩ = some (.slice (some ad402) l0_2.length c0_2) := (blk_cell BK389.out 2).trans rfl; have hfz82_0 := blk_frozen BK389.out 0; have hfz82_1 := blk_frozen BK389.out 1; have hfz82_2 := blk_frozen BK389.out 2) | ((with_reducible refine gate_callee (f := 34) rfl ?_); refine goesL_ (some 113) rfl rfl Tryd.func34 (by kernel_rfl) rfl #[.int .i64 ((rd_T57 l0_2 x7_5).f0), .int .i64 0, .int .i64 (wrap64 ((l0_0.length : Int) - 1))] rfl (by (try simp only [List.map_toArray, List.map_cons, List.map_nil]); first | done | rfl | (simp only [List.length_drop, List.length_take]; rfl)) ?_; (with_reducible refine (wishbookref00_Tween.calls ((rd_T57 l0_2 x7_5).f0) 0 (wrap64 ((l0_0.length : Int) - 1)) true _ A73.out).mono ?_); rintro e w' ⟨rfl, ⟨nd, rfl⟩⟩; refine ⟨_, rfl, ?_⟩) | (go_at_call 65; (with_reducible refine (wishbookref00_Proper.calls ((rd_T57 l0_2 x7_5).f1.f0) ((rd_T57 l0_2 x7_5).f1.f1) 1 100 true _ A75.out).mono ?_); rintro e w83 ⟨rfl, hb⟩; have n0_ := Aside0.mk (blk_below (g := gb389) (o := .cells #[.slice A0_0 l0_0.length c0_0, .slice A0_1 l0_1.length c0_1, .slice (some ad402) l0_2.length c0_2] 26 (0, 0)) (by (with_reducible repeat (first | refine blk_drewN ?_ _ | refine blk_drew ?_ | refine blk_alloc ?_ _)); refine blk_far ?_ NB389_403.out _; (with_reducible repeat (first | refine blk_drewN ?_ _ | refine blk_drew ?_ | refine blk_alloc ?_ _)); refine blk_far ?_ NB389_403.out _; (with_reducible repeat (first | refine blk_drewN ?_ _ | refine blk_drew ?_ | refine blk_alloc ?_ _)); refine blk_far ?_ NB389_403.out _; (with_reducible repeat (first | refine blk_drewN ?_ _ | refine blk_drew ?_ | refine blk_alloc ?_ _)); refine blk_far ?_ NB389_403.out _; (with_reducible repeat (first | refine blk_drewN ?_ _ | refine blk_drew ?_ | refine blk_alloc ?_ _)); refine blk_far ?_ NB389_403.out _; (with_reducible repeat (first | refine blk_drewN ?_ _ | refine blk_drew ?_ | refine blk_alloc ?_ _)); exact BK389.out) hb); have n1_ := Aside0.mk (blk_below (g := gb403) (o := .cells #[.int .i64 ((rd_T57 l0_2 x7_5).f0), .int .i64 ((rd_T57 l0_2 x7_5).f1.f0), .int .i64 ((rd_T57 l0_2 x7_5).f1.f1), .int .i64 ((rd_T57 l0_2 x7_5).f2.f0), .int .i64 ((rd_T57 l0_2 x7_5).f2.f1)] 57 (0, 0)) (by (with_reducible repeat (first | refine blk_drewN ?_ _ | refine blk_drew ?_ | refine blk_alloc ?_ _)); refine blk_put (cs := #[.int .i64 ((rd_T57 l0_2 x7_5).f0), .int .i64 ((rd_T57 l0_2 x7_5).f1.f0), .int .i64 ((rd_T57 l0_2 x7_5).f1.f1), .int .i64 ((rd_T57 l0_2 x7_5).f2.f0), .int .i64 0]) ?_ 4 _ rfl; (with_reducible repeat (first | refine blk_drewN ?_ _ | refine blk_drew ?_ | refine blk_alloc ?_ _)); refine blk_put (cs := #[.int .i64 ((rd_T57 l0_2 x7_5).f0), .int .i64 ((rd_T57 l0_2 x7_5).f1.f0), .int .i64 ((rd_T57 l0_2 x7_5).f1.f1), .int .i64 0, .int .i64 0]) ?_ 3 _ rfl; (with_reducible repeat (first | refine blk_drewN ?_ _ | refine blk_drew ?_ | refine blk_alloc ?_ _)); refine blk_put (cs := #[.int .i64 ((rd_T57 l0_2 x7_5).f0), .int .i64 ((rd_T57 l0_2 x7_5).f1.f0), .int .i64 0, .int .i64 0, .int .i64 0]) ?_ 2 _ rfl; (with_reducible repeat (first | refine blk_drewN ?_ _ | refine blk_drew ?_ | refine blk_alloc ?_ _)); refine blk_put (cs := #[.int .i64 ((rd_T57 l0_2 x7_5).f0), .int .i64 0, .int .i64 0, .int .i64 0, .int .i64 0]) ?_ 1 _ rfl; (with_reducible repeat (first | refine blk_drewN ?_ _ | refine blk_drew ?_ | refine blk_alloc ?_ _)); refine blk_put (cs := #[.int .i64 0, .int .i64 0, .int .i64 0, .int .i64 0, .int .i64 0]) ?_ 0 _ rfl; (with_reducible repeat (first | refine blk_drewN ?_ _ | refine blk_drew ?_ | refine blk_alloc ?_ _)); exact BK403.out) hb); have n2_ := Aside0.mk (below_step (by repeat (first | (with_reducible first | exact HB.out | apply below_alloc | apply pw_below_drewN | apply below_drew1 | refine below_set ?_ GE389.out | refine below_set ?_ GE403.out) | exact HB.out)) hb); clear BK389; clear BK403; clear HB; have BK389 := n0_; have BK403 := n1_; have HB := n2_; clear n0_ n1_ n2_; (try clear hb); (try clear hb2); (try clear hk); (try clear hi); have hcz84_0 : w83.cell? ⟨gb403, 0, none⟩ = some (.int .i64 ((rd_T57 l0_2 x7_5).f0)) := (blk_cell BK403.out 0).trans rfl; have hcz84_1 : w83.cell? ⟨gb403, 1, none⟩ = some (.int .i64 ((rd_T57 l0_2 x7_5).f1.f0)) := (blk_cell BK403.out 1).trans rfl; have hcz84_2 : w83.cell? ⟨gb403, 2, none⟩ = some (.int .i64 ((rd_T57 l0_2 x7_5).f1.f1)) := (blk_cell BK403.out 2).trans rfl; have hcz84_3 : w83.cell? ⟨gb403, 3, none⟩ = some (.int .i64 ((rd_T57 l0_2 x7_5).f2.f0)) := (blk_cell BK403.out 3).trans rfl; have hcz84_4 : w83.cell? ⟨gb403, 4, none⟩ = some (.int .i64 ((rd_T57 l0_2 x7_5).f2.f1)) := (blk_cell BK403.out 4).trans rfl; have hfz84_0 := blk_frozen BK403.out 0; have hfz84_1 := blk_frozen BK403.out 1; have hfz84_2 := blk_frozen BK403.out 2; have hfz84_3 := blk_frozen BK403.out 3; have hfz84_4 := blk_frozen BK403.out 4) | (go_at_call 65; (with_reducible refine (wishbookref00_Proper.calls ((rd_T57 l0_2 x7_5).f2.f0) ((rd_T57 l0_2 x7_5).f2.f1) 0 50 t406 _ A77.out).mono ?_); rintro e w85 ⟨rfl, hb⟩; have n0_ := Aside0.mk (blk_below (g := gb389) (o := .cells #[.slice A0_0 l0_0.length c0_0, .slice A0_1 l0_1.length c0_1, .slice (some ad402) l0_2.length c0_2] 26 (0, 0)) (by (with_reducible repeat (first | refine blk_drewN ?_ _ | refine blk_drew ?_ | refine blk_alloc ?_ _)); exact BK389.out) hb); have n1_ := Aside0.mk (blk_below (g := gb403) (o := .cells #[.int .i64 ((rd_T57 l0_2 x7_5).f0), .int .i64 ((rd_T57 l0_2 x7_5).f1.f0), .int .i64 ((rd_T57 l0_2 x7_5).f1.f1), .int .i64 ((rd_T57 l0_2 x7_5).f2.f0), .int .i64 ((rd_T57 l0_2 x7_5).f2.f1)] 57 (0, 0)) (by (with_reducible repeat (first | refine blk_drewN ?_ _ | refine blk_drew ?_ | refine blk_alloc ?_ _)); exact BK403.out) hb); have n2_ := Aside0.mk (below_step (by repeat (first | (with_reducible first | exact HB.out | apply below_alloc | apply pw_below_drewN | apply below_drew1 | refine below_set ?_ GE389.out | refine below_set ?_ GE403.out) | exact HB.out)) hb); clear BK389; clear BK403; clear HB; have BK389 := n0_; have BK403 := n1_; have HB := n2_; clear n0_ n1_ n2_; (try clear hb); (try clear hb2); (try clear hk); (try clear hi)))
                                      go_roundg kj66
                                      case measure => have := HJ1.out; have := HJ20.out; have := HK3.out; have := HJ27.out; have := HK5.out; have := HJ66.out; omega
                                      case rel => exact ⟨(t406), (wrap64 (x7_5 + 1)), (by first | rfl | (simp; done) | (simp [*]; done)), (by first | rfl | (simp; done) | (simp [*]; done)), H', ⟨by have := HJ1.out; have := HJ20.out; have := HK3.out; have := HJ27.out; have := HK5.out; have := HJ66.out; omega⟩, ⟨by (with_reducible repeat (first | refine blk_drewN ?_ _ | refine blk_drew ?_ | refine blk_alloc ?_ _)); exact BK389.out⟩, ⟨by repeat (first | (with_reducible first | exact HB.out | apply below_alloc | apply pw_below_drewN | apply below_drew1 | refine below_set ?_ GE389.out | refine below_set ?_ GE403.out) | exact HB.out)⟩⟩
                                    · replace c76 := Bool.eq_false_iff.mpr c76
                                      subst c76
                                      have H1 : (wishbooklaw10_sound.l2 kj66 false (wrap64 (x7_5 + 1)) l0_0 l0_1 l0_2) = some r := by rw [if_neg (show ¬ (false = true) by decide)] at H; exact H
                                      clear H
                                      have H := H1
                                      clear H1
                                      have H' := Aside0.mk H
                                      clear H
                                      have hcz86_0 : wc.cell? ⟨gb389, 0, none⟩ = some (.slice A0_0 l0_0.length c0_0) := (blk_cell BK389.out 0).trans rfl
                                      have hcz86_1 : wc.cell? ⟨gb389, 1, none⟩ = some (.slice A0_1 l0_1.length c0_1) := (blk_cell BK389.out 1).trans rfl
                                      have hcz86_2 : wc.cell? ⟨gb389, 2, none⟩ = some (.slice A0_2 l0_2.length c0_2) := (blk_cell BK389.out 2).trans rfl
                                      have hfz86_0 := blk_frozen BK389.out 0
                                      have hfz86_1 := blk_frozen BK389.out 1
                                      have hfz86_2 := blk_frozen BK389.out 2
                                      have p402 : 0 ≤ (x7_5 : Int) := of_decide_eq_true (by first | (with_reducible assumption) | assumption)
                                      have q402 : x7_5 < (l0_2.length : Int) := of_decide_eq_true (by first | (with_reducible assumption) | assumption)
                                      obtain ⟨ad402, e402, hx402_0, hx402_1, hx402_2, hx402_3, hx402_4⟩ := at_T57 HR0_2.out x7_5 p402 q402
                                      cases e402
                                      replace hx402_0 := (HB.out.cell (World.block_lt_of_cell? w _ hx402_0)).trans hx402_0
                                      replace hx402_1 := (HB.out.cell (World.block_lt_of_cell? w _ hx402_1)).trans hx402_1
                                      replace hx402_2 := (HB.out.cell (World.block_lt_of_cell? w _ hx402_2)).trans hx402_2
                                      replace hx402_3 := (HB.out.cell (World.block_lt_of_cell? w _ hx402_3)).trans hx402_3
                                      replace hx402_4 := (HB.out.cell (World.block_lt_of_cell? w _ hx402_4)).trans hx402_4
                                      replace p402 := eq_true p402
                                      replace q402 := eq_true q402
                                      go_wp2_with (first | ((with_reducible refine gate_dst (N := 8) rfl ?_); (try (refine gate_guard (by rfl) ?_; dsimp only)); refine box_event ?hg (N := 8) ?hd (cs := #[.int .i64 0, .int .i64 0, .int .i64 0, .int .i64 0, .int .i64 0]) (t := 57) ?hr ?_; (case hd => rfl); (case hg => rfl); (case hr => first | (go_simp; done) | (go_simp; rfl)); intro gb403 hg w87 hbox hb; have n0_ := Aside0.mk (blk_below (g := gb389) (o := .cells #[.slice A0_0 l0_0.length c0_0, .slice A0_1 l0_1.length c0_1, .slice (some ad402) l0_2.length c0_2] 26 (0, 0)) (by (with_reducible repeat (first | refine blk_drewN ?_ _ | refine blk_drew ?_ | refine blk_alloc ?_ _)); exact BK389.out) hb); have n1_ := Aside0.mk (below_step (by repeat (first | (with_reducible first | exact HB.out | apply below_alloc | apply pw_below_drewN | apply below_drew1 | refine below_set ?_ GE389.out) | exact HB.out)) hb); have n2_ := Aside0.mk (hbox); have n3_ := Aside0.mk ((by rw [hg]; exact (below_size (by repeat (first | (with_reducible first | exact HB.out | apply below_alloc | apply pw_below_drewN | apply below_drew1 | refine below_set ?_ GE389.out) | exact HB.out))) : w.heap.size ≤ gb403)); have n4_ := Aside0.mk ((by rw [hg]; exact (below_size (by repeat (first | (with_reducible first | exact HB.out | apply below_alloc | apply pw_below_drewN | apply below_drew1 | refine below_set ?_ GE389.out) | exact HB.out))) : w.heap.size ≤ gb403)); have n5_ := Aside0.mk ((by rw [hg]; exact Nat.ne_of_lt (blk_lt (g := gb389) (o := .cells #[.slice A0_0 l0_0.length c0_0, .slice A0_1 l0_1.length c0_1, .slice (some ad402) l0_2.length c0_2] 26 (0, 0)) (by (with_reducible repeat (first | refine blk_drewN ?_ _ | refine blk_drew ?_ | refine blk_alloc ?_ _)); exact BK389.out)) : gb389 ≠ gb403)); have n6_ := Aside0.mk ((by rw [hg]; exact Nat.ne_of_gt (blk_lt (g := gb389) (o := .cells #[.slice A0_0 l0_0.length c0_0, .slice A0_1 l0_1.length c0_1, .slice (some ad402) l0_2.length c0_2] 26 (0, 0)) (by (with_reducible repeat (first | refine blk_drewN ?_ _ | refine blk_drew ?_ | refine blk_alloc ?_ _)); exact BK389.out)) : gb403 ≠ gb389)); clear BK389; clear HB; have BK389 := n0_; have HB := n1_; have BK403 := n2_; have GW403 := n3_; have GE403 := n4_; have NB389_403 := n5_; have NB403_389 := n6_; clear n0_ n1_ n2_ n3_ n4_ n5_ n6_; clear hb hbox hg; have hnb88 := NB403_389.out; have hnc88 := NB389_403.out; have hcz89_0 : w87.cell? ⟨gb403, 0, none⟩ = some (.int .i64 0) := (blk_cell BK403.out 0).trans rfl; have hcz89_1 : w87.cell? ⟨gb403, 1, none⟩ = some (.int .i64 0) := (blk_cell BK403.out 1).trans rfl; have hcz89_2 : w87.cell? ⟨gb403, 2, none⟩ = some (.int .i64 0) := (blk_cell BK403.out 2).trans rfl; have hcz89_3 : w87.cell? ⟨gb403, 3, none⟩ = some (.int .i64 0) := (blk_cell BK403.out 3).trans rfl; have hcz89_4 : w87.cell? ⟨gb403, 4, none⟩ = some (.int .i64 0) := (blk_cell BK403.out 4).trans rfl; have hfz89_0 := blk_frozen BK403.out 0; have hfz89_1 := blk_frozen BK403.out 1; have hfz89_2 := blk_frozen BK403.out 2; have hfz89_3 := blk_frozen BK403.out 3; have hfz89_4 := blk_frozen BK403.out 4; have hcz90_0 : w87.cell? ⟨gb389, 0, none⟩ = some (.slice A0_0 l0_0.length c0_0) := (blk_cell BK389.out 0).trans rfl; have hcz90_1 : w87.cell? ⟨gb389, 1, none⟩ = some (.slice A0_1 l0_1.length c0_1) := (blk_cell BK389.out 1).trans rfl; have hcz90_2 : w87.cell? ⟨gb389, 2, none⟩ = some (.slice (some ad402) l0_2.length c0_2) := (blk_cell BK389.out 2).trans rfl; have hfz90_0 := blk_frozen BK389.out 0; have hfz90_1 := blk_frozen BK389.out 1; have hfz90_2 := blk_frozen BK389.out 2) | ((with_reducible refine gate_callee (f := 34) rfl ?_); refine goesL_ (some 113) rfl rfl Tryd.func34 (by kernel_rfl) rfl #[.int .i64 ((rd_T57 l0_2 x7_5).f0), .int .i64 0, .int .i64 (wrap64 ((l0_0.length : Int) - 1))] rfl (by (try simp only [List.map_toArray, List.map_cons, List.map_nil]); first | done | rfl | (simp only [List.length_drop, List.length_take]; rfl)) ?_; (with_reducible refine (wishbookref00_Tween.calls ((rd_T57 l0_2 x7_5).f0) 0 (wrap64 ((l0_0.length : Int) - 1)) true _ A73.out).mono ?_); rintro e w' ⟨rfl, ⟨nd, rfl⟩⟩; refine ⟨_, rfl, ?_⟩) | (go_at_call 65; (with_reducible refine (wishbookref00_Proper.calls ((rd_T57 l0_2 x7_5).f1.f0) ((rd_T57 l0_2 x7_5).f1.f1) 1 100 false _ A75.out).mono ?_); rintro e w91 ⟨rfl, hb⟩; have n0_ := Aside0.mk (blk_below (g := gb389) (o := .cells #[.slice A0_0 l0_0.length c0_0, .slice A0_1 l0_1.length c0_1, .slice (some ad402) l0_2.length c0_2] 26 (0, 0)) (by (with_reducible repeat (first | refine blk_drewN ?_ _ | refine blk_drew ?_ | refine blk_alloc ?_ _)); refine blk_far ?_ NB389_403.out _; (with_reducible repeat (first | refine blk_drewN ?_ _ | refine blk_drew ?_ | refine blk_alloc ?_ _)); refine blk_far ?_ NB389_403.out _; (with_reducible repeat (first | refine blk_drewN ?_ _ | refine blk_drew ?_ | refine blk_alloc ?_ _)); refine blk_far ?_ NB389_403.out _; (with_reducible repeat (first | refine blk_drewN ?_ _ | refine blk_drew ?_ | refine blk_alloc ?_ _)); refine blk_far ?_ NB389_403.out _; (with_reducible repeat (first | refine blk_drewN ?_ _ | refine blk_drew ?_ | refine blk_alloc ?_ _)); refine blk_far ?_ NB389_403.out _; (with_reducible repeat (first | refine blk_drewN ?_ _ | refine blk_drew ?_ | refine blk_alloc ?_ _)); exact BK389.out) hb); have n1_ := Aside0.mk (blk_below (g := gb403) (o := .cells #[.int .i64 ((rd_T57 l0_2 x7_5).f0), .int .i64 ((rd_T57 l0_2 x7_5).f1.f0), .int .i64 ((rd_T57 l0_2 x7_5).f1.f1), .int .i64 ((rd_T57 l0_2 x7_5).f2.f0), .int .i64 ((rd_T57 l0_2 x7_5).f2.f1)] 57 (0, 0)) (by (with_reducible repeat (first | refine blk_drewN ?_ _ | refine blk_drew ?_ | refine blk_alloc ?_ _)); refine blk_put (cs := #[.int .i64 ((rd_T57 l0_2 x7_5).f0), .int .i64 ((rd_T57 l0_2 x7_5).f1.f0), .int .i64 ((rd_T57 l0_2 x7_5).f1.f1), .int .i64 ((rd_T57 l0_2 x7_5).f2.f0), .int .i64 0]) ?_ 4 _ rfl; (with_reducible repeat (first | refine blk_drewN ?_ _ | refine blk_drew ?_ | refine blk_alloc ?_ _)); refine blk_put (cs := #[.int .i64 ((rd_T57 l0_2 x7_5).f0), .int .i64 ((rd_T57 l0_2 x7_5).f1.f0), .int .i64 ((rd_T57 l0_2 x7_5).f1.f1), .int .i64 0, .int .i64 0]) ?_ 3 _ rfl; (with_reducible repeat (first | refine blk_drewN ?_ _ | refine blk_drew ?_ | refine blk_alloc ?_ _)); refine blk_put (cs := #[.int .i64 ((rd_T57 l0_2 x7_5).f0), .int .i64 ((rd_T57 l0_2 x7_5).f1.f0), .int .i64 0, .int .i64 0, .int .i64 0]) ?_ 2 _ rfl; (with_reducible repeat (first | refine blk_drewN ?_ _ | refine blk_drew ?_ | refine blk_alloc ?_ _)); refine blk_put (cs := #[.int .i64 ((rd_T57 l0_2 x7_5).f0), .int .i64 0, .int .i64 0, .int .i64 0, .int .i64 0]) ?_ 1 _ rfl; (with_reducible repeat (first | refine blk_drewN ?_ _ | refine blk_drew ?_ | refine blk_alloc ?_ _)); refine blk_put (cs := #[.int .i64 0, .int .i64 0, .int .i64 0, .int .i64 0, .int .i64 0]) ?_ 0 _ rfl; (with_reducible repeat (first | refine blk_drewN ?_ _ | refine blk_drew ?_ | refine blk_alloc ?_ _)); exact BK403.out) hb); have n2_ := Aside0.mk (below_step (by repeat (first | (with_reducible first | exact HB.out | apply below_alloc | apply pw_below_drewN | apply below_drew1 | refine below_set ?_ GE389.out | refine below_set ?_ GE403.out) | exact HB.out)) hb); clear BK389; clear BK403; clear HB; have BK389 := n0_; have BK403 := n1_; have HB := n2_; clear n0_ n1_ n2_; (try clear hb); (try clear hb2); (try clear hk); (try clear hi)))
                                      go_roundg kj66
                                      case measure => have := HJ1.out; have := HJ20.out; have := HK3.out; have := HJ27.out; have := HK5.out; have := HJ66.out; omega
                                      case rel => exact ⟨(false), (wrap64 (x7_5 + 1)), (by first | rfl | (simp; done) | (simp [*]; done)), (by first | rfl | (simp; done) | (simp [*]; done)), H', ⟨by have := HJ1.out; have := HJ20.out; have := HK3.out; have := HJ27.out; have := HK5.out; have := HJ66.out; omega⟩, ⟨by (with_reducible repeat (first | refine blk_drewN ?_ _ | refine blk_drew ?_ | refine blk_alloc ?_ _)); exact BK389.out⟩, ⟨by repeat (first | (with_reducible first | exact HB.out | apply below_alloc | apply pw_below_drewN | apply below_drew1 | refine below_set ?_ GE389.out | refine below_set ?_ GE403.out) | exact HB.out)⟩⟩
                                  · replace c74 := Bool.eq_false_iff.mpr c74
                                    subst c74
                                    have H1 : (wishbooklaw10_sound.l2 kj66 false (wrap64 (x7_5 + 1)) l0_0 l0_1 l0_2) = some r := by rw [if_neg (show ¬ (false = true) by decide)] at H; exact H
                                    clear H
                                    have H := H1
                                    clear H1
                                    have H' := Aside0.mk H
                                    clear H
                                    have hcz92_0 : wc.cell? ⟨gb389, 0, none⟩ = some (.slice A0_0 l0_0.length c0_0) := (blk_cell BK389.out 0).trans rfl
                                    have hcz92_1 : wc.cell? ⟨gb389, 1, none⟩ = some (.slice A0_1 l0_1.length c0_1) := (blk_cell BK389.out 1).trans rfl
                                    have hcz92_2 : wc.cell? ⟨gb389, 2, none⟩ = some (.slice A0_2 l0_2.length c0_2) := (blk_cell BK389.out 2).trans rfl
                                    have hfz92_0 := blk_frozen BK389.out 0
                                    have hfz92_1 := blk_frozen BK389.out 1
                                    have hfz92_2 := blk_frozen BK389.out 2
                                    have p402 : 0 ≤ (x7_5 : Int) := of_decide_eq_true (by first | (with_reducible assumption) | assumption)
                                    have q402 : x7_5 < (l0_2.length : Int) := of_decide_eq_true (by first | (with_reducible assumption) | assumption)
                                    obtain ⟨ad402, e402, hx402_0, hx402_1, hx402_2, hx402_3, hx402_4⟩ := at_T57 HR0_2.out x7_5 p402 q402
                                    cases e402
                                    replace hx402_0 := (HB.out.cell (World.block_lt_of_cell? w _ hx402_0)).trans hx402_0
                                    replace hx402_1 := (HB.out.cell (World.block_lt_of_cell? w _ hx402_1)).trans hx402_1
                                    replace hx402_2 := (HB.out.cell (World.block_lt_of_cell? w _ hx402_2)).trans hx402_2
                                    replace hx402_3 := (HB.out.cell (World.block_lt_of_cell? w _ hx402_3)).trans hx402_3
                                    replace hx402_4 := (HB.out.cell (World.block_lt_of_cell? w _ hx402_4)).trans hx402_4
                                    replace p402 := eq_true p402
                                    replace q402 := eq_true q402
                                    go_wp2_with (first | ((with_reducible refine gate_dst (N := 8) rfl ?_); (try (refine gate_guard (by rfl) ?_; dsimp only)); refine box_event ?hg (N := 8) ?hd (cs := #[.int .i64 0, .int .i64 0, .int .i64 0, .int .i64 0, .int .i64 0]) (t := 57) ?hr ?_; (case hd => rfl); (case hg => rfl); (case hr => first | (go_simp; done) | (go_simp; rfl)); intro gb403 hg w93 hbox hb; have n0_ := Aside0.mk (blk_below (g := gb389) (o := .cells #[.slice A0_0 l0_0.length c0_0, .slice A0_1 l0_1.length c0_1, .slice (some ad402) l0_2.length c0_2] 26 (0, 0)) (by (with_reducible repeat (first | refine blk_drewN ?_ _ | refine blk_drew ?_ | refine blk_alloc ?_ _)); exact BK389.out) hb); have n1_ := Aside0.mk (below_step (by repeat (first | (with_reducible first | exact HB.out | apply below_alloc | apply pw_below_drewN | apply below_drew1 | refine below_set ?_ GE389.out) | exact HB.out)) hb); have n2_ := Aside0.mk (hbox); have n3_ := Aside0.mk ((by rw [hg]; exact (below_size (by repeat (first | (with_reducible first | exact HB.out | apply below_alloc | apply pw_below_drewN | apply below_drew1 | refine below_set ?_ GE389.out) | exact HB.out))) : w.heap.size ≤ gb403)); have n4_ := Aside0.mk ((by rw [hg]; exact (below_size (by repeat (first | (with_reducible first | exact HB.out | apply below_alloc | apply pw_below_drewN | apply below_drew1 | refine below_set ?_ GE389.out) | exact HB.out))) : w.heap.size ≤ gb403)); have n5_ := Aside0.mk ((by rw [hg]; exact Nat.ne_of_lt (blk_lt (g := gb389) (o := .cells #[.slice A0_0 l0_0.length c0_0, .slice A0_1 l0_1.length c0_1, .slice (some ad402) l0_2.length c0_2] 26 (0, 0)) (by (with_reducible repeat (first | refine blk_drewN ?_ _ | refine blk_drew ?_ | refine blk_alloc ?_ _)); exact BK389.out)) : gb389 ≠ gb403)); have n6_ := Aside0.mk ((by rw [hg]; exact Nat.ne_of_gt (blk_lt (g := gb389) (o := .cells #[.slice A0_0 l0_0.length c0_0, .slice A0_1 l0_1.length c0_1, .slice (some ad402) l0_2.length c0_2] 26 (0, 0)) (by (with_reducible repeat (first | refine blk_drewN ?_ _ | refine blk_drew ?_ | refine blk_alloc ?_ _)); exact BK389.out)) : gb403 ≠ gb389)); clear BK389; clear HB; have BK389 := n0_; have HB := n1_; have BK403 := n2_; have GW403 := n3_; have GE403 := n4_; have NB389_403 := n5_; have NB403_389 := n6_; clear n0_ n1_ n2_ n3_ n4_ n5_ n6_; clear hb hbox hg; have hnb94 := NB403_389.out; have hnc94 := NB389_403.out; have hcz95_0 : w93.cell? ⟨gb403, 0, none⟩ = some (.int .i64 0) := (blk_cell BK403.out 0).trans rfl; have hcz95_1 : w93.cell? ⟨gb403, 1, none⟩ = some (.int .i64 0) := (blk_cell BK403.out 1).trans rfl; have hcz95_2 : w93.cell? ⟨gb403, 2, none⟩ = some (.int .i64 0) := (blk_cell BK403.out 2).trans rfl; have hcz95_3 : w93.cell? ⟨gb403, 3, none⟩ = some (.int .i64 0) := (blk_cell BK403.out 3).trans rfl; have hcz95_4 : w93.cell? ⟨gb403, 4, none⟩ = some (.int .i64 0) := (blk_cell BK403.out 4).trans rfl; have hfz95_0 := blk_frozen BK403.out 0; have hfz95_1 := blk_frozen BK403.out 1; have hfz95_2 := blk_frozen BK403.out 2; have hfz95_3 := blk_frozen BK403.out 3; have hfz95_4 := blk_frozen BK403.out 4; have hcz96_0 : w93.cell? ⟨gb389, 0, none⟩ = some (.slice A0_0 l0_0.length c0_0) := (blk_cell BK389.out 0).trans rfl; have hcz96_1 : w93.cell? ⟨gb389, 1, none⟩ = some (.slice A0_1 l0_1.length c0_1) := (blk_cell BK389.out 1).trans rfl; have hcz96_2 : w93.cell? ⟨gb389, 2, none⟩ = some (.slice (some ad402) l0_2.length c0_2) := (blk_cell BK389.out 2).trans rfl; have hfz96_0 := blk_frozen BK389.out 0; have hfz96_1 := blk_frozen BK389.out 1; have hfz96_2 := blk_frozen BK389.out 2) | ((with_reducible refine gate_callee (f := 34) rfl ?_); refine goesL_ (some 113) rfl rfl Tryd.func34 (by kernel_rfl) rfl #[.int .i64 ((rd_T57 l0_2 x7_5).f0), .int .i64 0, .int .i64 (wrap64 ((l0_0.length : Int) - 1))] rfl (by (try simp only [List.map_toArray, List.map_cons, List.map_nil]); first | done | rfl | (simp only [List.length_drop, List.length_take]; rfl)) ?_; (with_reducible refine (wishbookref00_Tween.calls ((rd_T57 l0_2 x7_5).f0) 0 (wrap64 ((l0_0.length : Int) - 1)) false _ A73.out).mono ?_); rintro e w' ⟨rfl, ⟨nd, rfl⟩⟩; refine ⟨_, rfl, ?_⟩))
                                    go_roundg kj66
                                    case measure => have := HJ1.out; have := HJ20.out; have := HK3.out; have := HJ27.out; have := HK5.out; have := HJ66.out; omega
                                    case rel => exact ⟨(false), (wrap64 (x7_5 + 1)), (by first | rfl | (simp; done) | (simp [*]; done)), (by first | rfl | (simp; done) | (simp [*]; done)), H', ⟨by have := HJ1.out; have := HJ20.out; have := HK3.out; have := HJ27.out; have := HK5.out; have := HJ66.out; omega⟩, ⟨by (with_reducible repeat (first | refine blk_drewN ?_ _ | refine blk_drew ?_ | refine blk_alloc ?_ _)); refine blk_far ?_ NB389_403.out _; (with_reducible repeat (first | refine blk_drewN ?_ _ | refine blk_drew ?_ | refine blk_alloc ?_ _)); refine blk_far ?_ NB389_403.out _; (with_reducible repeat (first | refine blk_drewN ?_ _ | refine blk_drew ?_ | refine blk_alloc ?_ _)); refine blk_far ?_ NB389_403.out _; (with_reducible repeat (first | refine blk_drewN ?_ _ | refine blk_drew ?_ | refine blk_alloc ?_ _)); refine blk_far ?_ NB389_403.out _; (with_reducible repeat (first | refine blk_drewN ?_ _ | refine blk_drew ?_ | refine blk_alloc ?_ _)); refine blk_far ?_ NB389_403.out _; (with_reducible repeat (first | refine blk_drewN ?_ _ | refine blk_drew ?_ | refine blk_alloc ?_ _)); exact BK389.out⟩, ⟨by repeat (first | (with_reducible first | exact HB.out | apply below_alloc | apply pw_below_drewN | apply below_drew1 | refine below_set ?_ GE389.out | refine below_set ?_ GE403.out) | exact HB.out)⟩⟩
                                · rw [if_neg c72] at H
                                  exact absurd H (by simp)
                              · rw [if_neg c71] at H
                                exact absurd H (by simp)
                            · replace c70 := Bool.eq_false_iff.mpr c70
                              subst c70
                              have H1 : (some x3_5) = some r := by rw [if_neg (show ¬ (false = true) by decide)] at H; exact H
                              clear H
                              have H := H1
                              clear H1
                              obtain rfl := Option.some.inj H
                              go_wp2
                              go_ret
                              exact ⟨by first | rfl | (simp [errW_none, errW_some] <;> rfl) | (simp [*, errW_none, errW_some] <;> rfl), by repeat (first | (with_reducible first | exact HB.out | apply below_alloc | apply pw_below_drewN | apply below_drew1 | refine below_set ?_ GE389.out) | exact HB.out)⟩
end Go.Proofs.YtegpepnmnlockaaDoor.PL
namespace Go.Proofs.YtegpepnmnlockaaDoor.PL
open Go.RowKit Go.Proofs.YtegpepnmnlockaaDoorW.PrintWords Go.Proofs.YtegpepnmnlockaaDoorW.PrintLast Go.Proofs.YtegpepnmnlockaaDoorW.PrintMore
set_option linter.unusedVariables false
set_option linter.unusedSimpArgs false
theorem tween_in {a lo hi : Int} (h1 : lo ≤ a) (h2 : a ≤ hi) : wishbookref00_Tween.f a lo hi = some true := by
  unfold wishbookref00_Tween.f
  rw [if_pos h1, decide_eq_true h2]
theorem proper_in {a b lo hi : Int} (h1 : lo ≤ a) (h2 : a ≤ b) (h3 : b ≤ hi) : wishbookref00_Proper.f a b lo hi = some true := by
  unfold wishbookref00_Proper.f
  rw [if_pos h1, if_pos h2, decide_eq_true h3]
section
variable (l0 : List Int) (l1 : List S47) (l2 : List S57)
theorem sound_dead : ∀ k, 10 ≤ k → wishbooklaw10_sound.j0 k false l0 l1 l2 = some false
  | k + 10, _ => by
    rw [wishbooklaw10_sound.j0, wishbooklaw10_sound.l0, if_neg (by decide), wishbooklaw10_sound.j2, wishbooklaw10_sound.l1, if_neg (by decide), wishbooklaw10_sound.j4, if_neg (by decide), wishbooklaw10_sound.l2, if_neg (by decide), wishbooklaw10_sound.j6, if_neg (by decide)]
theorem sound_l2 (hb : okB l0 l1 l2 = true) : ∀ (e i k : Nat), i + e = l2.length → 2 * e + 4 ≤ k → wishbooklaw10_sound.l2 k true i l0 l1 l2 = some true
  | 0, i, k + 2, hi, hk => by
    rw [wishbooklaw10_sound.l2, if_pos rfl, wishbooklaw10_sound.j6, if_neg (by simp; omega)]
  | e + 1, i, k + 2, hi, hk => by
    have ih := sound_l2 hb e (i + 1) k (by omega) (by omega)
    have f := okB_facts hb
    have x := okB_del hb (i := i) (by omega)
    unfold okDel at x
    rw [wishbooklaw10_sound.l2, if_pos rfl, wishbooklaw10_sound.j6, if_pos (decide_eq_true (by omega)), if_pos (by omega), if_pos (by omega), wrap_pred (by omega), tween_in (by omega) (by omega), Option.bind_some, if_pos rfl, proper_in (by omega) (by omega) (by omega), Option.bind_some, if_pos rfl, proper_in (by omega) (by omega) (by omega), Option.bind_some, wrap_succ (by omega)]
    exact ih
theorem sound_l1 (hb : okB l0 l1 l2 = true) : ∀ (e i k : Nat), i + e = l1.length → 2 * e + 30 ≤ k → wishbooklaw10_sound.l1 k true i l0 l1 l2 = some true
  | 0, i, k + 2, hi, hk => by
    have f := okB_facts hb
    rw [wishbooklaw10_sound.l1, if_pos rfl, wishbooklaw10_sound.j4, if_neg (by simp; omega)]
    exact sound_l2 l0 l1 l2 hb l2.length 0 k (by omega) (by omega)
  | e + 1, i, k + 2, hi, hk => by
    have ih := sound_l1 hb e (i + 1) k (by omega) (by omega)
    have f := okB_facts hb
    have x := okB_line hb (i := i) (by omega)
    unfold okLine at x
    rw [wishbooklaw10_sound.l1, if_pos rfl, wishbooklaw10_sound.j4, if_pos (decide_eq_true (by omega)), if_pos (by omega), if_pos (by omega), tween_in (by omega) (by omega), Option.bind_some, if_pos rfl, wrap_pred (by omega), tween_in (by omega) (by omega), Option.bind_some, if_pos rfl, tween_in (by omega) (by omega), Option.bind_some, if_pos rfl, tween_in (by omega) (by omega), Option.bind_some, if_pos rfl, tween_in (by omega) (by omega), Option.bind_some, wrap_succ (by omega)]
    exact ih
theorem sound_l0 (hb : okB l0 l1 l2 = true) : ∀ (e i k : Nat), i + e = l0.length → e + 60 ≤ k → wishbooklaw10_sound.l0 k true i l0 l1 l2 = some true
  | 0, i, k + 2, hi, hk => by
    have f := okB_facts hb
    rw [wishbooklaw10_sound.l0, if_pos rfl, if_neg (by omega), wishbooklaw10_sound.j2]
    exact sound_l1 l0 l1 l2 hb l1.length 0 k (by omega) (by omega)
  | e + 1, i, k + 1, hi, hk => by
    have ih := sound_l0 hb e (i + 1) k (by omega) (by omega)
    have f := okB_facts hb
    have x := rd_bds f.2.2.2.2.2.1 (by omega) (i : Nat)
    rw [wishbooklaw10_sound.l0, if_pos rfl, if_pos (by omega), if_pos (by omega), tween_in (by omega) (by omega), Option.bind_some, wrap_succ (by omega)]
    exact ih
theorem sound_f (hf : Few l0 l1 l2) (k : Nat) (hk : 100 ≤ k) : wishbooklaw10_sound.f k l0 l1 l2 = some (okB l0 l1 l2) := by
  unfold wishbooklaw10_sound.f lack_Check.f
  rw [if_pos hf, Option.bind_some]
  cases hb : okB l0 l1 l2 with
  | false =>
    rw [if_neg (show ¬ chkV false = 0 by decide)]
    exact sound_dead l0 l1 l2 k (by omega)
  | true =>
    have f := okB_facts hb
    obtain ⟨k, rfl⟩ : ∃ j, k = j + 1 := ⟨k - 1, by omega⟩
    rw [if_pos (show chkV true = 0 by decide), tween_in (by omega) (by omega), Option.bind_some, if_pos rfl, tween_in (by omega) (by omega), Option.bind_some, if_pos rfl, decide_eq_true (by omega), wishbooklaw10_sound.j0]
    exact sound_l0 l0 l1 l2 hb l0.length 0 k (by omega) (by omega)
end
end Go.Proofs.YtegpepnmnlockaaDoor.PL
namespace Go.Proofs.YtegpepnmnlockaaDoor.PL
open Go.RowKit Go.Proofs.YtegpepnmnlockaaDoorW.PrintWords Go.Proofs.YtegpepnmnlockaaDoorW.PrintLast Go.Proofs.YtegpepnmnlockaaDoorW.PrintMore
attribute [local go_sem] max2_int min2_int max_two min_two
set_option linter.unusedVariables false
set_option linter.unusedSimpArgs false
set_option maxHeartbeats 8000000 in
set_option maxRecDepth 100000 in
theorem LackSurely_dead (k : Nat) (A0 A1 A2 B : Option Addr) (c0 c1 c2 b : Nat) (l0 : List Int) (l1 : List S47) (l2 : List S57) (bits : List Int) (n0 n1 n2 : Int) (w : World)
    (h0 : Kd.C (Kd.int .i64) w A0 l0.length l0) (hc0 : l0.length ≤ c0) (h1 : Kd.C k47 w A1 l1.length l1) (hc1 : l1.length ≤ c1) (h2 : Kd.C k57 w A2 l2.length l2) (hc2 : l2.length ≤ c2) (hfa : Fates w)
    (hs : wishbooklaw10_sound.f k l0 l1 l2 = some false) :
    Calls Tryd.prog 12 #[.agg #[.slice A0 l0.length c0, .slice A1 l1.length c1, .slice A2 l2.length c2], .slice B bits.length b, .agg #[.int .i64 n0, .int .i64 n1, .int .i64 n2]] w fun e w' => e = .returned (.bool true) ∧ Below w.heap.size w w' := by
  have H0' := Aside0.mk h0
  have H1' := Aside0.mk h1
  have H2' := Aside0.mk h2
  have HFA' := Aside0.mk hfa
  have HC0 := Aside0.mk hc0
  have HC1 := Aside0.mk hc1
  have HC2 := Aside0.mk hc2
  clear hc0 hc1 hc2
  have hu26 := Tryd.underlying26
  have hu65 := Tryd.underlying65
  have HX := heap_alloc_new w (.cells #[.slice A0 l0.length c0, .slice A1 l1.length c1, .slice A2 l2.length c2] 26)
  have HY := Aside0.mk (heap_alloc_new (w.alloc (.cells #[.slice A0 l0.length c0, .slice A1 l1.length c1, .slice A2 l2.length c2] 26)) (.cells #[.int .i64 n0, .int .i64 n1, .int .i64 n2] 65))
  have HB1 := below_alloc (Below.refl w.heap.size w) (.cells #[.slice A0 l0.length c0, .slice A1 l1.length c1, .slice A2 l2.length c2] 26)
  have HB2 := below_alloc (Below.refl (w.alloc (.cells #[.slice A0 l0.length c0, .slice A1 l1.length c1, .slice A2 l2.length c2] 26)).heap.size (w.alloc (.cells #[.slice A0 l0.length c0, .slice A1 l1.length c1, .slice A2 l2.length c2] 26))) (.cells #[.int .i64 n0, .int .i64 n1, .int .i64 n2] 65)
  have HX2 := Aside0.mk (blk_below HX HB2)
  have HW2 := Aside0.mk (below_step HB1 HB2)
  have hsz : (w.alloc (.cells #[.slice A0 l0.length c0, .slice A1 l1.length c1, .slice A2 l2.length c2] 26)).heap.size = w.heap.size + 1 := by simp
  clear HX HB1 HB2 h0 h1 h2 hfa
  go_enter Tryd.func12, Tryd.ntmps12
  go_upto_region 1 with (fail)
  rw [hsz] at HY
  generalize (w.alloc (.cells #[.slice A0 l0.length c0, .slice A1 l1.length c1, .slice A2 l2.length c2] 26)).alloc (.cells #[.int .i64 n0, .int .i64 n1, .int .i64 n2] 65) = W2 at HY HX2 HW2 ⊢
  have H0 := Aside0.mk (Kd.C_below H0'.out HW2.out)
  have H1 := Aside0.mk (Kd.C_below H1'.out HW2.out)
  have H2 := Aside0.mk (Kd.C_below H2'.out HW2.out)
  have HFA := Aside0.mk (Fates.below HFA'.out HW2.out)
  have HBW := Aside0.mk (Below.refl W2.heap.size W2)
  have q0 := (blk_cell HX2.out 0).trans (show _ = some (Value.slice A0 l0.length c0) from rfl)
  have q1 := (blk_cell HX2.out 1).trans (show _ = some (Value.slice A1 l1.length c1) from rfl)
  have q2 := (blk_cell HX2.out 2).trans (show _ = some (Value.slice A2 l2.length c2) from rfl)
  have r0 := (blk_cell HY.out 0).trans (show _ = some (Value.int .i64 n0) from rfl)
  have r1 := (blk_cell HY.out 1).trans (show _ = some (Value.int .i64 n1) from rfl)
  have r2 := (blk_cell HY.out 2).trans (show _ = some (Value.int .i64 n2) from rfl)
  obtain ⟨gk, hgk⟩ : ∃ g, g = w.heap.size := ⟨_, rfl⟩
  rw [← hgk] at q0 q1 q2 r0 r1 r2 ⊢
  obtain ⟨ga, hga⟩ : ∃ g, g = gk + 1 := ⟨_, rfl⟩
  rw [← hga] at r0 r1 r2 ⊢
  have HGK := Aside0.mk hgk
  have HGA := Aside0.mk hga
  clear hsz hgk hga
  go_upto_region 2 with ((go_at_call 30; (with_reducible refine (wishbooklaw10_sound.calls k A0 c0 l0 A1 c1 l1 A2 c2 l2 false _ (Kd.C_below H0.out (by repeat (first | (with_reducible exact HBW.out) | apply below_drew | apply pw_below_drewN))) HC0.out (Kd.C_below H1.out (by repeat (first | (with_reducible exact HBW.out) | apply below_drew | apply pw_below_drewN))) HC1.out (Kd.C_below H2.out (by repeat (first | (with_reducible exact HBW.out) | apply below_drew | apply pw_below_drewN))) HC2.out hs).mono ?_); rintro e w3 ⟨rfl, hb⟩; have HB3 := Aside0.mk (below_step (by repeat (first | (with_reducible exact HBW.out) | apply below_drew | apply pw_below_drewN)) hb); replace q0 := pw_cell_below hb (a := ⟨gk, 0, none⟩) (v := .slice A0 l0.length c0) (by first | (with_reducible exact q0) | (go_simp; done)); replace q1 := pw_cell_below hb (a := ⟨gk, 1, none⟩) (v := .slice A1 l1.length c1) (by first | (with_reducible exact q1) | (go_simp; done)); replace q2 := pw_cell_below hb (a := ⟨gk, 2, none⟩) (v := .slice A2 l2.length c2) (by first | (with_reducible exact q2) | (go_simp; done)); replace r0 := pw_cell_below hb (a := ⟨ga, 0, none⟩) (v := .int .i64 n0) (by first | (with_reducible exact r0) | (go_simp; done)); replace r1 := pw_cell_below hb (a := ⟨ga, 1, none⟩) (v := .int .i64 n1) (by first | (with_reducible exact r1) | (go_simp; done)); replace r2 := pw_cell_below hb (a := ⟨ga, 2, none⟩) (v := .int .i64 n2) (by first | (with_reducible exact r2) | (go_simp; done)); clear hb))
  go_wp2_with ((go_at_call 19; (with_reducible refine (wishbooklaw10_listed.calls true _ (Fates.below HFA.out (by repeat (first | (with_reducible exact HB3.out) | apply below_drew | apply pw_below_drewN))) rfl).mono ?_); rintro e w4 ⟨rfl, hb⟩; have HB4 := Aside0.mk (below_step (by repeat (first | (with_reducible exact HB3.out) | apply below_drew | apply pw_below_drewN)) hb); clear hb))
  go_ret
  exact ⟨rfl, below_step HW2.out HB4.out⟩
set_option maxHeartbeats 8000000 in
set_option maxRecDepth 100000 in
theorem LackSurely_live (k : Nat) (A0 A1 A2 B : Option Addr) (c0 c1 c2 b : Nat) (l0 : List Int) (l1 : List S47) (l2 : List S57) (bits : List Int) (n0 n1 n2 : Int) (w : World)
    (h0 : Kd.C (Kd.int .i64) w A0 l0.length l0) (hc0 : l0.length ≤ c0) (h1 : Kd.C k47 w A1 l1.length l1) (hc1 : l1.length ≤ c1) (h2 : Kd.C k57 w A2 l2.length l2) (hc2 : l2.length ≤ c2) (h3 : Kd.C (Kd.int .i64) w B bits.length bits) (hc3 : bits.length ≤ b) (hfa : Fates w)
    (g d t a c : Int) (cm : List S59) (hs : wishbooklaw10_sound.f k l0 l1 l2 = some true) (hg : wishbookref00_Spin.f n0 (l0.length : Int) = some g) (hd : wishbookref00_Spin.f n1 101 = some d) (ht : wishbookref00_Spin.f n2 30 = some t)
    (hdt : IntKind.i64.wrap (d + t) = d + t) (ha : lack_Surely.f l0 l1 l2 g d = some (a, 0)) (later : Int) (hlt : (if d + t < 100 then d + t else 100) = later) (hc : lack_Surely.f l0 l1 l2 g later = some (c, 0))
    (hcm : wishbooklaw10_came.f k l0 l1 l2 bits = some cm) (hcl : cm.length = l2.length) (hl2 : l2.length ≤ 6) (hmany : ∀ x ∈ cm, 0 ≤ x.f1 ∧ x.f1 ≤ 50)
    (ha0 : 0 ≤ a) (hac : a ≤ c) (haa : a ≤ cameBy l2 cm g d cm.length) :
    Calls Tryd.prog 12 #[.agg #[.slice A0 l0.length c0, .slice A1 l1.length c1, .slice A2 l2.length c2], .slice B bits.length b, .agg #[.int .i64 n0, .int .i64 n1, .int .i64 n2]] w fun e w' => e = .returned (.bool true) ∧ Below w.heap.size w w' := by
  have HC3 := Aside0.mk hc3
  have H3' := Aside0.mk h3
  have HS := Aside0.mk hs
  have HG := Aside0.mk hg
  have HD := Aside0.mk hd
  have HT := Aside0.mk ht
  have HA := Aside0.mk ha
  have HCC := Aside0.mk hc
  have HLT := Aside0.mk hlt
  clear hlt
  have HCM := Aside0.mk hcm
  have HCL := Aside0.mk hcl
  have HL2 := Aside0.mk hl2
  have HMANY := Aside0.mk hmany
  have HA0 := Aside0.mk ha0
  have HAC := Aside0.mk hac
  have HAA := Aside0.mk haa
  clear hc3 h3 hs hg hd ht ha hc hcm hcl hl2 hmany ha0 hac haa
  have H0' := Aside0.mk h0
  have H1' := Aside0.mk h1
  have H2' := Aside0.mk h2
  have HFA' := Aside0.mk hfa
  have HC0 := Aside0.mk hc0
  have HC1 := Aside0.mk hc1
  have HC2 := Aside0.mk hc2
  clear hc0 hc1 hc2
  have hu26 := Tryd.underlying26
  have hu65 := Tryd.underlying65
  have HX := heap_alloc_new w (.cells #[.slice A0 l0.length c0, .slice A1 l1.length c1, .slice A2 l2.length c2] 26)
  have HY := Aside0.mk (heap_alloc_new (w.alloc (.cells #[.slice A0 l0.length c0, .slice A1 l1.length c1, .slice A2 l2.length c2] 26)) (.cells #[.int .i64 n0, .int .i64 n1, .int .i64 n2] 65))
  have HB1 := below_alloc (Below.refl w.heap.size w) (.cells #[.slice A0 l0.length c0, .slice A1 l1.length c1, .slice A2 l2.length c2] 26)
  have HB2 := below_alloc (Below.refl (w.alloc (.cells #[.slice A0 l0.length c0, .slice A1 l1.length c1, .slice A2 l2.length c2] 26)).heap.size (w.alloc (.cells #[.slice A0 l0.length c0, .slice A1 l1.length c1, .slice A2 l2.length c2] 26))) (.cells #[.int .i64 n0, .int .i64 n1, .int .i64 n2] 65)
  have HX2 := Aside0.mk (blk_below HX HB2)
  have HW2 := Aside0.mk (below_step HB1 HB2)
  have hsz : (w.alloc (.cells #[.slice A0 l0.length c0, .slice A1 l1.length c1, .slice A2 l2.length c2] 26)).heap.size = w.heap.size + 1 := by simp
  clear HX HB1 HB2 h0 h1 h2 hfa
  go_enter Tryd.func12, Tryd.ntmps12
  go_upto_region 1 with (fail)
  rw [hsz] at HY
  generalize (w.alloc (.cells #[.slice A0 l0.length c0, .slice A1 l1.length c1, .slice A2 l2.length c2] 26)).alloc (.cells #[.int .i64 n0, .int .i64 n1, .int .i64 n2] 65) = W2 at HY HX2 HW2 ⊢
  have H0 := Aside0.mk (Kd.C_below H0'.out HW2.out)
  have H1 := Aside0.mk (Kd.C_below H1'.out HW2.out)
  have H2 := Aside0.mk (Kd.C_below H2'.out HW2.out)
  have HFA := Aside0.mk (Fates.below HFA'.out HW2.out)
  have HBW := Aside0.mk (Below.refl W2.heap.size W2)
  have q0 := (blk_cell HX2.out 0).trans (show _ = some (Value.slice A0 l0.length c0) from rfl)
  have q1 := (blk_cell HX2.out 1).trans (show _ = some (Value.slice A1 l1.length c1) from rfl)
  have q2 := (blk_cell HX2.out 2).trans (show _ = some (Value.slice A2 l2.length c2) from rfl)
  have r0 := (blk_cell HY.out 0).trans (show _ = some (Value.int .i64 n0) from rfl)
  have r1 := (blk_cell HY.out 1).trans (show _ = some (Value.int .i64 n1) from rfl)
  have r2 := (blk_cell HY.out 2).trans (show _ = some (Value.int .i64 n2) from rfl)
  obtain ⟨gk, hgk⟩ : ∃ g, g = w.heap.size := ⟨_, rfl⟩
  rw [← hgk] at q0 q1 q2 r0 r1 r2 ⊢
  obtain ⟨ga, hga⟩ : ∃ g, g = gk + 1 := ⟨_, rfl⟩
  rw [← hga] at r0 r1 r2 ⊢
  have HGK := Aside0.mk hgk
  have HGA := Aside0.mk hga
  clear hsz hgk hga
  have H3 := Aside0.mk (Kd.C_below H3'.out HW2.out)
  go_upto_region 3 with ((go_at_call 30; (with_reducible refine (wishbooklaw10_sound.calls k A0 c0 l0 A1 c1 l1 A2 c2 l2 true _ (Kd.C_below H0.out (by repeat (first | (with_reducible exact HBW.out) | apply below_drew | apply pw_below_drewN))) HC0.out (Kd.C_below H1.out (by repeat (first | (with_reducible exact HBW.out) | apply below_drew | apply pw_below_drewN))) HC1.out (Kd.C_below H2.out (by repeat (first | (with_reducible exact HBW.out) | apply below_drew | apply pw_below_drewN))) HC2.out HS.out).mono ?_); rintro e w3 ⟨rfl, hb⟩; have HB3 := Aside0.mk (below_step (by repeat (first | (with_reducible exact HBW.out) | apply below_drew | apply pw_below_drewN)) hb); replace q0 := pw_cell_below hb (a := ⟨gk, 0, none⟩) (v := .slice A0 l0.length c0) (by first | (with_reducible exact q0) | (go_simp; done)); replace q1 := pw_cell_below hb (a := ⟨gk, 1, none⟩) (v := .slice A1 l1.length c1) (by first | (with_reducible exact q1) | (go_simp; done)); replace q2 := pw_cell_below hb (a := ⟨gk, 2, none⟩) (v := .slice A2 l2.length c2) (by first | (with_reducible exact q2) | (go_simp; done)); replace r0 := pw_cell_below hb (a := ⟨ga, 0, none⟩) (v := .int .i64 n0) (by first | (with_reducible exact r0) | (go_simp; done)); replace r1 := pw_cell_below hb (a := ⟨ga, 1, none⟩) (v := .int .i64 n1) (by first | (with_reducible exact r1) | (go_simp; done)); replace r2 := pw_cell_below hb (a := ⟨ga, 2, none⟩) (v := .int .i64 n2) (by first | (with_reducible exact r2) | (go_simp; done)); clear hb))
  go_region_held3 (fun W => W.cell? ⟨ga, 0, none⟩ = some (.int .i64 n0) ∧ W.cell? ⟨ga, 1, none⟩ = some (.int .i64 n1) ∧ W.cell? ⟨gk, 0, none⟩ = some (.slice A0 l0.length c0)) (go_keep)
    ((go_at_call 38; (with_reducible first | refine (wishbookref00_Spin.calls n0 (l0.length : Int) g _ HG.out).mono ?_ | refine (wishbookref00_Spin.calls n1 101 d _ HD.out).mono ?_); rintro e w2 ⟨rfl, ⟨nd, rfl⟩⟩))
  go_upto_region 5 with ((go_at_call 38; (with_reducible refine (wishbookref00_Spin.calls n2 30 t _ HT.out).mono ?_); rintro e w2 ⟨rfl, ⟨nd, rfl⟩⟩))
  rw [HLT.out]
  go_upto_region 6 with ((go_at_call 42; (with_reducible refine (lack_Surely.calls A0 c0 l0 A1 c1 l1 A2 c2 l2 g d a 0 _ (Kd.C_below H0.out (by repeat (first | (with_reducible exact HB3.out) | apply below_drew | apply pw_below_drewN))) HC0.out (Kd.C_below H1.out (by repeat (first | (with_reducible exact HB3.out) | apply below_drew | apply pw_below_drewN))) HC1.out (Kd.C_below H2.out (by repeat (first | (with_reducible exact HB3.out) | apply below_drew | apply pw_below_drewN))) HC2.out (Fates.below HFA.out (by repeat (first | (with_reducible exact HB3.out) | apply below_drew | apply pw_below_drewN))) HA.out).mono ?_); rintro e w4 ⟨rfl, hb⟩; have HB4 := Aside0.mk (below_step (by repeat (first | (with_reducible exact HB3.out) | apply below_drew | apply pw_below_drewN)) hb); replace q0 := pw_cell_below hb (a := ⟨gk, 0, none⟩) (v := .slice A0 l0.length c0) (by first | (with_reducible exact q0) | (go_simp; done)); replace q1 := pw_cell_below hb (a := ⟨gk, 1, none⟩) (v := .slice A1 l1.length c1) (by first | (with_reducible exact q1) | (go_simp; done)); replace q2 := pw_cell_below hb (a := ⟨gk, 2, none⟩) (v := .slice A2 l2.length c2) (by first | (with_reducible exact q2) | (go_simp; done)); clear hb))
  go_upto_region 7 with ((go_at_call 42; (with_reducible refine (lack_Surely.calls A0 c0 l0 A1 c1 l1 A2 c2 l2 g later c 0 _ (Kd.C_below H0.out (by repeat (first | (with_reducible exact HB4.out) | apply below_drew | apply pw_below_drewN))) HC0.out (Kd.C_below H1.out (by repeat (first | (with_reducible exact HB4.out) | apply below_drew | apply pw_below_drewN))) HC1.out (Kd.C_below H2.out (by repeat (first | (with_reducible exact HB4.out) | apply below_drew | apply pw_below_drewN))) HC2.out (Fates.below HFA.out (by repeat (first | (with_reducible exact HB4.out) | apply below_drew | apply pw_below_drewN))) HCC.out).mono ?_); rintro e w5 ⟨rfl, hb⟩; have HB5 := Aside0.mk (below_step (by repeat (first | (with_reducible exact HB4.out) | apply below_drew | apply pw_below_drewN)) hb); replace q0 := pw_cell_below hb (a := ⟨gk, 0, none⟩) (v := .slice A0 l0.length c0) (by first | (with_reducible exact q0) | (go_simp; done)); replace q1 := pw_cell_below hb (a := ⟨gk, 1, none⟩) (v := .slice A1 l1.length c1) (by first | (with_reducible exact q1) | (go_simp; done)); replace q2 := pw_cell_below hb (a := ⟨gk, 2, none⟩) (v := .slice A2 l2.length c2) (by first | (with_reducible exact q2) | (go_simp; done)); clear hb))
  go_upto_region 8 with ((go_at_call 33; (with_reducible refine (wishbooklaw10_came.calls k A0 c0 l0 A1 c1 l1 A2 c2 l2 B b bits cm _ (Kd.C_below H0.out (by repeat (first | (with_reducible exact HB5.out) | apply below_drew | apply pw_below_drewN))) HC0.out (Kd.C_below H1.out (by repeat (first | (with_reducible exact HB5.out) | apply below_drew | apply pw_below_drewN))) HC1.out (Kd.C_below H2.out (by repeat (first | (with_reducible exact HB5.out) | apply below_drew | apply pw_below_drewN))) HC2.out (Kd.C_below H3.out (by repeat (first | (with_reducible exact HB5.out) | apply below_drew | apply pw_below_drewN))) HC3.out HCM.out).mono ?_); rintro e w6 ⟨v6, rfl, hR, hb⟩; obtain ⟨Ac, cc, rfl, hcc, hV⟩ := R_cut hR; have HV := Aside0.mk (show Kd.C k59 w6 Ac cm.length cm from (Kd.V_reads' hV).2.2); have HCX := Aside0.mk hcc; clear hR hcc hV; have HB6 := Aside0.mk (below_step (by repeat (first | (with_reducible exact HB5.out) | apply below_drew | apply pw_below_drewN)) hb); replace q0 := pw_cell_below hb (a := ⟨gk, 0, none⟩) (v := .slice A0 l0.length c0) (by first | (with_reducible exact q0) | (go_simp; done)); replace q1 := pw_cell_below hb (a := ⟨gk, 1, none⟩) (v := .slice A1 l1.length c1) (by first | (with_reducible exact q1) | (go_simp; done)); replace q2 := pw_cell_below hb (a := ⟨gk, 2, none⟩) (v := .slice A2 l2.length c2) (by first | (with_reducible exact q2) | (go_simp; done)); clear hb))
  go_wp2_with (fail)
  go_loopw [15, 16] (fun v15 v16 wr => ∃ i : Nat, i ≤ cm.length ∧ v16 = .int .i64 i ∧ v15 = .int .i64 (cameBy l2 cm g d i) ∧ Aside0 (Below w6.heap.size w6 wr)) (fun _ i _ => cm.length - (intOf i).toNat)
  case atStart => exact ⟨0, by omega, rfl, rfl, ⟨Below.refl _ _⟩⟩
  case round =>
    obtain ⟨i, hi, rfl, rfl, HR⟩ := hrel
    replace q2 := pw_cell_below HR.out (a := ⟨gk, 2, none⟩) (v := .slice A2 l2.length c2) q2
    clear q0 q1 r0 r1 r2
    have HBR := Aside0.mk (below_step HB6.out HR.out)
    by_cases hil : i < cm.length
    · have hlen2 := HCL.out
      have hl2 := HL2.out
      obtain ⟨ad3, e3, m0, m1, m2, m3, m4⟩ := at_T57 (Kd.C_below H2.out HBR.out) i (by omega) (by omega)
      obtain ⟨ad4, e4, y0, y1⟩ := at_T59 (Kd.C_below HV.out HR.out) i (by omega) (by omega)
      cases e3; cases e4
      simp only [Int.toNat_natCast] at m0 y0 y1
      clear m1 m2 m3 m4
      have hil2 : (i : Int) < (l2.length : Int) := by omega
      have hbd := cameBy_bd l2 cm g d HMANY.out i (by omega)
      have hmi : 0 ≤ (rd_T59 cm i).f1 ∧ (rd_T59 cm i).f1 ≤ 50 := by
        unfold rd_T59
        rw [Int.toNat_natCast, List.getD_eq_getElem?_getD, List.getElem?_eq_getElem hil]
        exact HMANY.out _ (List.getElem_mem _)
      have hwi : IntKind.i64.wrap ((i : Int) + 1) = (i : Int) + 1 := by rw [IntKind.wrap_i64]; omega
      have hwa : IntKind.i64.wrap (cameBy l2 cm g d i + (rd_T59 cm i).f1) = cameBy l2 cm g d i + (rd_T59 cm i).f1 := by rw [IntKind.wrap_i64]; omega
      clear hbd hmi hlen2 hl2
      have HSN := Aside0.mk (show cameBy l2 cm g d (i + 1) = cameBy l2 cm g d i + (if (rd_T57 l2 i).f0 = g ∧ (rd_T59 cm i).f0 ≤ d then (rd_T59 cm i).f1 else 0) from rfl)
      by_cases cA : (rd_T57 l2 i).f0 = g
      · have dA : ((rd_T57 l2 i).f0 == g) = true := beq_iff_eq.2 cA
        have CA := Aside0.mk cA
        clear cA
        by_cases cB : (rd_T59 cm i).f0 ≤ d
        · have dB : decide ((rd_T59 cm i).f0 ≤ d) = true := decide_eq_true cB
          have CB := Aside0.mk cB
          clear cB
          go_wp2
          go_roundw
          case rel => exact ⟨i + 1, by omega, by go_num, by rw [HSN.out, if_pos ⟨CA.out, CB.out⟩], HR⟩
          case measure => simp [intOf]; omega
        · have dB : decide ((rd_T59 cm i).f0 ≤ d) = false := decide_eq_false cB
          have CB := Aside0.mk cB
          clear cB
          go_wp2
          go_roundw
          case rel => exact ⟨i + 1, by omega, by go_num, by rw [HSN.out, if_neg (fun h => CB.out h.2), Int.add_zero], HR⟩
          case measure => simp [intOf]; omega
      · have dA : ((rd_T57 l2 i).f0 == g) = false := beq_eq_false_iff_ne.2 cA
        have CA := Aside0.mk cA
        clear cA
        go_wp2
        go_roundw
        case rel => exact ⟨i + 1, by omega, by go_num, by rw [HSN.out, if_neg (fun h => CA.out h.1), Int.add_zero], HR⟩
        case measure => simp [intOf]; omega
    · obtain rfl : i = cm.length := by omega
      have d1 : decide (a ≥ 0) = true := decide_eq_true HA0.out
      have d2 : decide (a ≤ c) = true := decide_eq_true HAC.out
      have d3 : decide (a ≤ cameBy l2 cm g d cm.length) = true := decide_eq_true HAA.out
      go_wp2_with ((go_at_call 19; (with_reducible refine (wishbooklaw10_listed.calls true _ (Fates.below HFA.out (by repeat (first | (with_reducible exact HBR.out) | apply below_drew | apply pw_below_drewN))) rfl).mono ?_); rintro e w7 ⟨rfl, hb⟩; have HB7 := Aside0.mk (below_step (by repeat (first | (with_reducible exact HBR.out) | apply below_drew | apply pw_below_drewN)) hb); clear hb))
      all_goals
        go_ret
        exact ⟨rfl, below_step HW2.out HB7.out⟩
end Go.Proofs.YtegpepnmnlockaaDoor.PL
namespace Go.Proofs.YtegpepnmnlockaaDoor.PL
open Go.RowKit Go.Proofs.YtegpepnmnlockaaDoorW.PrintWords Go.Proofs.YtegpepnmnlockaaDoorW.PrintLast Go.Proofs.YtegpepnmnlockaaDoorW.PrintMore
set_option linter.unusedVariables false
set_option linter.unusedSimpArgs false
theorem comTo_nonneg {l2 : List S57} (h : ∀ y ∈ l2, OkDel y) (g d : Int) : 0 ≤ comTo l2 l2.length g d := (comTo_bd h g d l2.length (Nat.le_refl _)).1
/-- What truly came by a day is no less than what surely has come. -/
theorem came_surely {l2 : List S57} {l3 : List S59} (hl : l3.length = l2.length) (hd : didAt l2 l3 l3.length = true) (hok : ∀ i : Nat, i < l2.length → 0 ≤ (rd_T57 l2 i).f2.f0) (g d : Int) (hdd : d ≤ 100) : ∀ n : Nat, n ≤ l3.length → comTo l2 n g d ≤ cameBy l2 l3 g d n
  | 0, _ => Int.le_refl _
  | n + 1, hn => by
    have ih := came_surely hl hd hok g d hdd n (by omega)
    have h0 := hok n (by omega)
    unfold didAt at hd
    rw [Bool.and_eq_true, List.all_eq_true] at hd
    have hx := hd.2 n (List.mem_range.2 (by omega))
    rw [Bool.and_eq_true, decide_eq_true_eq, decide_eq_true_eq] at hx
    unfold inDay inBy at hx
    rw [comTo, cameBy]
    split <;> split <;> omega
end Go.Proofs.YtegpepnmnlockaaDoor.PL
namespace Go.Proofs.YtegpepnmnlockaaDoor.PL
open Go.RowKit Go.Proofs.YtegpepnmnlockaaDoorW.PrintWords Go.Proofs.YtegpepnmnlockaaDoorW.PrintLast Go.Proofs.YtegpepnmnlockaaDoorW.PrintMore
set_option linter.unusedVariables false
set_option linter.unusedSimpArgs false
theorem comTo_later {l2 : List S57} (h : ∀ y ∈ l2, OkDel y) (g d e : Int) (hde : d ≤ e) (he : e ≤ 100) : ∀ n : Nat, n ≤ l2.length → comTo l2 n g d ≤ comTo l2 n g e
  | 0, _ => Int.le_refl _
  | n + 1, hn => by
    have ih := comTo_later h g d e hde he n (by omega)
    have x := rdmem57 (P := OkDel) h (show n < l2.length by omega)
    unfold OkDel at x
    rw [comTo, comTo]
    split <;> split <;> omega
theorem surely_in {l0 : List Int} {l1 : List S47} {l2 : List S57} (hf : Few l0 l1 l2) (hb : okB l0 l1 l2 = true) (g d : Int) (h1 : 0 ≤ g) (h2 : g < (l0.length : Int)) (h3 : 0 ≤ d) (h4 : d ≤ 100) : lack_Surely.f l0 l1 l2 g d = some (comTo l2 l2.length g d, 0) := by
  unfold lack_Surely.f
  rw [if_pos hf, if_pos hb, decide_eq_true (show 0 ≤ g ∧ g ≤ (l0.length : Int) - 1 by omega), decide_eq_true (show 0 ≤ d ∧ d ≤ 100 from ⟨h3, h4⟩)]
  rfl
def wishbooklaw10_LackSurely.f (k : Nat) (l0 : List Int) (l1 : List S47) (l2 : List S57) (bits : List Int) (n0 n1 n2 : Int) : Option Bool := if Few l0 l1 l2 ∧ bits.length * 8 ≤ 140737488351232 then some true else none
theorem wishbooklaw10_LackSurely.calls (k : Nat) (A0 : Option Addr) (c0 : Nat) (l0 : List Int) (A1 : Option Addr) (c1 : Nat) (l1 : List S47) (A2 : Option Addr) (c2 : Nat) (l2 : List S57) (B : Option Addr) (b : Nat) (bits : List Int) (n0 n1 n2 : Int) (r : Bool) (w : World)
    (h0 : Kd.C (Kd.int .i64) w A0 l0.length l0) (hc0 : l0.length ≤ c0) (h1 : Kd.C k47 w A1 l1.length l1) (hc1 : l1.length ≤ c1) (h2 : Kd.C k57 w A2 l2.length l2) (hc2 : l2.length ≤ c2) (h3 : Kd.C (Kd.int .i64) w B bits.length bits) (hc3 : bits.length ≤ b) (hfa : Fates w)
    (h : wishbooklaw10_LackSurely.f k l0 l1 l2 bits n0 n1 n2 = some r) :
    Calls Tryd.prog 12 #[.agg #[.slice A0 l0.length c0, .slice A1 l1.length c1, .slice A2 l2.length c2], .slice B bits.length b, .agg #[.int .i64 n0, .int .i64 n1, .int .i64 n2]] w fun e w' => e = .returned (.bool r) ∧ Below w.heap.size w w' := by
  unfold wishbooklaw10_LackSurely.f at h
  by_cases hh : Few l0 l1 l2 ∧ bits.length * 8 ≤ 140737488351232
  · rw [if_pos hh] at h
    cases h
    obtain ⟨hf, hbits⟩ := hh
    cases hb : okB l0 l1 l2 with
    | false => exact LackSurely_dead 100 A0 A1 A2 B c0 c1 c2 b l0 l1 l2 bits n0 n1 n2 w h0 hc0 h1 hc1 h2 hc2 hfa (by rw [sound_f l0 l1 l2 hf 100 (by omega), hb])
    | true =>
      have f := okB_facts hb
      have hok : ∀ y ∈ l2, OkDel y := fun y hy => okDel_of f.2.1 (f.2.2.2.2.2.2.2 y hy)
      obtain ⟨g, e1, g1, g2⟩ := spin_f n0 (l0.length : Int) (by omega) (by omega)
      obtain ⟨d, e2, d1, d2⟩ := spin_f n1 101 (by omega) (by omega)
      obtain ⟨t, e3, t1, t2⟩ := spin_f n2 30 (by omega) (by omega)
      obtain ⟨cm, m1, m2, m3⟩ := came_f l0 l1 l2 hb bits (by omega) 100 (by omega)
      obtain ⟨later, hlt, hl1, hl2⟩ : ∃ x, (if d + t < 100 then d + t else 100) = x ∧ d ≤ x ∧ x ≤ 100 := by
        refine ⟨_, rfl, ?_, ?_⟩ <;> split <;> omega
      exact LackSurely_live 100 A0 A1 A2 B c0 c1 c2 b l0 l1 l2 bits n0 n1 n2 w h0 hc0 h1 hc1 h2 hc2 h3 hc3 hfa g d t (comTo l2 l2.length g d) (comTo l2 l2.length g later) cm
        (by rw [sound_f l0 l1 l2 hf 100 (by omega), hb]) e1 e2 e3 (by rw [IntKind.wrap_i64]; omega) (surely_in hf hb g d g1 g2 d1 (by omega)) later hlt (surely_in hf hb g later g1 g2 (by omega) hl2) m3 m1 f.2.2.2.2.1 (didAt_bd hb m2 m1)
        (comTo_nonneg hok g d) (comTo_later hok g d later hl1 hl2 l2.length (Nat.le_refl _)) (by
          have := came_surely m1 m2 (fun i hi => by have := okB_del hb hi; unfold okDel at this; omega) g d (by omega) cm.length (Nat.le_refl _)
          rw [m1] at this ⊢
          exact this)
  · rw [if_neg hh] at h
    cases h
theorem LackSurely_pure (l0 : List Int) (l1 : List S47) (l2 : List S57) (bits : List Int) (n0 n1 n2 : Int) (hf : Few l0 l1 l2) (ht : bits.length * 8 ≤ 140737488351232) : ∃ k, wishbooklaw10_LackSurely.f k l0 l1 l2 bits n0 n1 n2 = some true :=
  ⟨0, by unfold wishbooklaw10_LackSurely.f; rw [if_pos ⟨hf, ht⟩]⟩
end Go.Proofs.YtegpepnmnlockaaDoor.PL
namespace Go
variable {H : Type} {enc : TypeId × Value → H}
/-- The frame of a row whose contract is told the world's shape and one condition more. -/
theorem returnsInHanded_of_change_and_shaped {a : Assume} {C : Checked} {os : Os} {f : FuncId} {fn : Func} {s : ChangeSpec} {conds : List PathCond} {apart fresh handsOn again : Bool} {X : World → Array Value → Prop}
    (hX : ∀ (w w' : World) (args : Array Value), w.heap = w'.heap → X w args → X w' args)
    (own : ownKnob C.prog.godebug = none) (started : os.Started) (noInit : C.prog.inits.idxOf? f = none) (hfn : C.prog.funcs[f]? = some fn)
    (witness : ∃ (w : World) (tape : Tape) (i : Input), w.os = os ∧ (w.forCall tape i).Shaped C.prog ∧ i.vars = [] ∧ Input.okWide C.prog (w.forCall tape i) .any w.heap.size f i ∧
      ((s.pre enc C.prog fn conds apart (w.forCall tape i).memory i.args ∧ X (w.forCall tape i).memory i.args) ∧ sizedMet enc C.prog fn (OpenSpec.ofChange s) apart (w.forCall tape i).memory i.args) ∧ a.holds C.prog (lone (Frame.enter C.prog f i.args .normal) [] (w.forCall tape i)))
    (contract : ∀ (W : World) (base : Nat) (args : Array Value) (ds gs : List (DataW H)) (before : List MemPlace),
      (∀ (j : Nat) t v, fn.params[j]? = some t → args[j]? = some v → Value.okWide C.prog W .any base t v) →
      DataW.Whole enc C.prog fn.params.toList s.vars apart W args.toList ds gs before →
      (DataW.weightsEach C.prog (fn.params.toList ++ s.plain.varTypes C.prog) (ds ++ gs)).all (· ≤ reachBytes) = true → W.ShapedOpen C.prog → X W args →
      Calls C.prog f args W fun e W' => ∃ v, e = .returned v ∧ s.post enc C.prog fn apart fresh handsOn again W args v W') :
    ReturnsInHanded a C os f .any (fun w args => (s.pre enc C.prog fn conds apart w args ∧ X w args) ∧ sizedMet enc C.prog fn (OpenSpec.ofChange s) apart w args) (s.post enc C.prog fn apart fresh handsOn again) := by
  refine returnsInHanded_of_calls own started noInit witness ?_
  intro w tape i _ hsh _ hok hpre _
  obtain ⟨_, _, _, fn', hfn', _, _, _, _, hval⟩ := hok
  obtain rfl := Option.some.inj (hfn'.symm.trans hfn)
  obtain ⟨⟨⟨ds, gs, before, hw, hc⟩, hx⟩, hz⟩ := hpre
  refine (contract (w.forCall tape i) w.heap.size i.args ds gs before hval (DataW.Whole.of_heap (w' := w.forCall tape i) (by rfl) hw) (hz.weights hw) hsh (hX _ _ _ (by rfl) hx)).mono fun e W' ⟨v, he, hp⟩ => ?_
  subst he
  exact ChangeSpec.post_blind hp
end Go
namespace Go.Proofs.YtegpepnmnlockaaDoor.PL
open Go.RowKit Go.ChangeShapes Go.WideShapes Go.Deep Go.Proofs.YtegpepnmnlockaaDoorW.PrintWords Go.Proofs.YtegpepnmnlockaaDoorW.PrintLast Go.Proofs.YtegpepnmnlockaaDoorW.PrintMore
set_option linter.unusedVariables false
set_option linter.unusedSimpArgs false
section
variable {H : Type} {enc : TypeId × Value → H} {P : Program} {α β : Type}
/-- The data of a type are of a kind. -/
def Rds (enc : TypeId × Value → H) (P : Program) (d : Kd α) (t : TypeId) (ok : α → Prop) : Prop := ∀ (w : World) (n : Nat) (cs : List Value) (x : DataW H × List MemPlace),
  DataW.trod enc P w 0 (fun _ => true) true n t cs = some x → (x.1.weights P t).all (· ≤ reachBytes) = true → ∃ a, d.K w a cs ∧ ok a
theorem Rds.int {t : TypeId} {k : IntKind} (ht : P.underlying t = some (.int k)) : Rds enc P (Kd.int k) t (fun n => (Lit.int k n).wf = true) := fun w n cs x h _ => by
  obtain ⟨m, rfl, _, hw⟩ := DataW.trod_int ht h
  exact ⟨m, rfl, hw⟩
theorem Rds.iso {d : Kd α} {t : TypeId} {ok : α → Prop} (h : Rds enc P d t ok) (f : β → α) (g : α → β) (hfg : ∀ a, f (g a) = a) : Rds enc P (Kd.iso d f) t (fun b => ok (f b)) := fun w n cs x hx hz => by
  obtain ⟨a, hK, ho⟩ := h w n cs x hx hz
  refine ⟨g a, ?_, ?_⟩
  · show d.K w (f (g a)) cs
    rw [hfg]; exact hK
  · show ok (f (g a))
    rw [hfg]; exact ho
theorem all_app {l m : List Nat} (h : (l ++ m).all (· ≤ reachBytes) = true) : l.all (· ≤ reachBytes) = true ∧ m.all (· ≤ reachBytes) = true := by
  rw [List.all_append, Bool.and_eq_true] at h
  exact h
theorem weightsAll_at {e : TypeId} : ∀ {l : List (DataW H)} {j : Nat} {y : DataW H}, (DataW.weightsAll P e l).all (· ≤ reachBytes) = true → l[j]? = some y → (y.weights P e).all (· ≤ reachBytes) = true
  | [], j, y, _, hj => by simp at hj
  | d :: r, 0, y, h, hj => by
    cases hj
    rw [DataW.weightsAll] at h
    exact (all_app h).1
  | d :: r, j + 1, y, h, hj => by
    rw [DataW.weightsAll] at h
    exact weightsAll_at (all_app h).2 (by simpa using hj)
theorem Rds.slice [Inhabited α] {d : Kd α} {t e B : Nat} {ok : α → Prop} (he : Rds enc P d e ok) (ht : P.underlying t = some (.slice e)) (hC : P.cellsOf e = d.sz) (hB : P.bytesOf e = B) :
    Rds enc P (Kd.slice e d) t (fun l => l.length * B ≤ reachBytes ∧ ∀ a ∈ l, ok a) := fun w n cs x h hz => by
  rcases open_slice ht h with ⟨rfl, rfl⟩ | ⟨a, len, cap, m, n', D, Pl, rfl, _, hl, hm, hmm, rfl, hi⟩
  · exact ⟨[], ⟨none, 0, rfl, Nat.le_refl _, Kd.C_nil d w⟩, by simp, by simp⟩
  · have hmc : m = cap := by rw [hmm]; rfl
    subst hmc
    simp only [DataW.weights, ht, List.all_cons, Bool.and_eq_true] at hz
    obtain ⟨hz1, hz2⟩ := hz
    have hlen : len * B ≤ reachBytes := by
      rw [← hB]
      refine Nat.le_trans (Nat.mul_le_mul_right _ ?_) (of_decide_eq_true hz1)
      simp
    have each : ∀ i, i < len → ∃ y : α, (∃ c, c.length = d.sz ∧ d.K w y c ∧ ∀ q u, c[q]? = some u → w.cell? (a.add (i * d.sz + q)) = some u) ∧ ok y := fun i hil => by
      obtain ⟨cs', hc, htr⟩ := hi i (by omega)
      have hw : ((D i).weights P e).all (· ≤ reachBytes) = true := weightsAll_at (j := i) (all_app hz2).1 (by rw [List.getElem?_map, List.getElem?_range hil]; rfl)
      obtain ⟨y, hK, ho⟩ := he w n' cs' (D i, Pl i) htr hw
      rw [hC] at hc
      obtain ⟨_, hcl, hat⟩ := World.cells?_some hc
      refine ⟨y, ⟨cs', hcl, hK, fun q u hu => ?_⟩, ho⟩
      have hq : q < d.sz := by rw [← hcl]; exact (List.getElem?_eq_some_iff.1 hu).1
      rw [← Go.Deep.add_add, hat q hq, hu]
    obtain ⟨V, hV⟩ := choose_lt each
    have hlr : ((List.range len).map V).length = len := by simp
    refine ⟨(List.range len).map V, ⟨some a, m, by rw [hlr], by rw [hlr]; exact hl, by rw [hlr], by rw [hlr]; unfold maxLen at hm; omega, fun _ => ⟨a, rfl, fun j y hy => ?_⟩⟩, by rw [hlr]; exact hlen, fun y hy => ?_⟩
    · have hj : j < len := by rw [← hlr]; exact (List.getElem?_eq_some_iff.1 hy).1
      rw [List.getElem?_map, List.getElem?_range hj] at hy
      cases hy
      exact (hV j hj).1
    · obtain ⟨j, hj, rfl⟩ := List.mem_map.1 hy
      exact (hV j (List.mem_range.1 hj)).2
/-- The same for the fields of a struct, from a place on. -/
def RdF (enc : TypeId × Value → H) (P : Program) (d : Kd α) (l : List Field) (o : Nat) (ok : α → Prop) : Prop := ∀ (w : World) (n : Nat) (cs : List Value) (xs : List (DataW H × List MemPlace)),
  (∀ (i : Nat) (f : Field), l[i]? = some f → DataW.trod enc P w 0 (fun _ => true) true n f.type ((cs.drop f.offset).take (P.cellsOf f.type)) = xs[i]?) → xs.length = l.length →
  (DataW.weightsEach P (l.map (·.type)) (xs.map (·.1))).all (· ≤ reachBytes) = true → cs.length = o + (l.map fun f => P.cellsOf f.type).sum → ∃ a, d.K w a (cs.drop o) ∧ ok a
theorem RdF.one {d : Kd α} {f : Field} {o : Nat} {ok : α → Prop} (h : Rds enc P d f.type ok) (ho : f.offset = o) : RdF enc P d [f] o ok := fun w n cs xs hx hl hz hc => by
  match xs, hl with
  | [y], _ =>
    have h1 := hx 0 f rfl
    rw [ho] at h1
    simp only [List.map_cons, List.map_nil, DataW.weightsEach, List.append_nil] at hz
    simp only [List.map_cons, List.map_nil, List.sum_cons, List.sum_nil] at hc
    obtain ⟨a, hK, hok⟩ := h w n _ y h1 hz
    rw [List.take_of_length_le (by rw [List.length_drop]; omega)] at hK
    exact ⟨a, hK, hok⟩
theorem RdF.cons {d : Kd α} {d2 : Kd β} {f : Field} {l : List Field} {o : Nat} {ok : α → Prop} {ok2 : β → Prop} (h : Rds enc P d f.type ok) (ho : f.offset = o) (h2 : RdF enc P d2 l (o + P.cellsOf f.type) ok2) : RdF enc P (Kd.pair d d2) (f :: l) o (fun x => ok x.1 ∧ ok2 x.2) := fun w n cs xs hx hl hz hc => by
  match xs, hl with
  | y :: ys, hl =>
    have h1 := hx 0 f rfl
    rw [ho] at h1
    simp only [List.map_cons, DataW.weightsEach] at hz
    simp only [List.map_cons, List.sum_cons] at hc
    obtain ⟨a, hK, hok⟩ := h w n _ y h1 (all_app hz).1
    obtain ⟨b, hK2, hok2⟩ := h2 w n cs ys (fun i g hg => by have := hx (i + 1) g (by simpa using hg); simpa using this) (by simpa using hl) (all_app hz).2 (by omega)
    refine ⟨(a, b), ⟨_, _, ?_, hK, hK2⟩, hok, hok2⟩
    rw [← List.drop_drop, List.take_append_drop]
theorem RdF.struct {d : Kd α} {t : TypeId} {fs : Array Field} {ok : α → Prop} (ht : P.underlying t = some (.struct fs)) (h : RdF enc P d fs.toList 0 ok) (hc : P.cellsOf t = (fs.toList.map fun f => P.cellsOf f.type).sum) : Rds enc P d t ok := fun w n cs x hx hz => by
  obtain ⟨xs, n', rfl, rfl, hl, hlen, hf⟩ := DataW.trod_struct ht hx
  simp only [DataW.weights, ht] at hz
  have := h w n' cs xs (fun i f hi => hf i f (by simpa using hi)) (by simpa using hlen) hz (by rw [hl, hc]; omega)
  rwa [List.drop_zero] at this
end
end Go.Proofs.YtegpepnmnlockaaDoor.PL
namespace Go.Proofs.YtegpepnmnlockaaDoor.PL
open Go.RowKit Go.ChangeShapes Go.WideShapes Go.Deep Go.Proofs.YtegpepnmnlockaaDoorW.PrintWords Go.Proofs.YtegpepnmnlockaaDoorW.PrintLast Go.Proofs.YtegpepnmnlockaaDoorW.PrintMore
set_option linter.unusedVariables false
set_option linter.unusedSimpArgs false
section
variable {H : Type} {enc : TypeId × Value → H}
def W64 (n : Int) : Prop := (Lit.int .i64 n).wf = true
instance : Inhabited S47 := ⟨z47⟩
instance : Inhabited S57 := ⟨z57⟩
instance : Inhabited S59 := ⟨z59⟩
def W47 (x : S47) : Prop := W64 x.f0 ∧ W64 x.f1 ∧ W64 x.f2 ∧ W64 x.f3 ∧ W64 x.f4
def W55 (x : S55) : Prop := W64 x.f0 ∧ W64 x.f1
def W57 (x : S57) : Prop := W64 x.f0 ∧ W55 x.f1 ∧ W55 x.f2
theorem rdI : Rds enc Tryd.prog (Kd.int .i64) 3 W64 := Rds.int Tryd.underlying3
theorem rds47 : Rds enc Tryd.prog k47 47 W47 :=
  Rds.iso (RdF.struct Tryd.underlying47 (RdF.cons rdI rfl (RdF.cons rdI (by kernel_rfl) (RdF.cons rdI (by kernel_rfl) (RdF.cons rdI (by kernel_rfl) (RdF.one rdI (by kernel_rfl)))))) (by kernel_rfl)) _ (fun p => ⟨p.1, p.2.1, p.2.2.1, p.2.2.2.1, p.2.2.2.2⟩) (fun _ => rfl)
theorem rds55 : Rds enc Tryd.prog k55 55 W55 :=
  Rds.iso (RdF.struct Tryd.underlying55 (RdF.cons rdI rfl (RdF.one rdI (by kernel_rfl))) (by kernel_rfl)) _ (fun p => ⟨p.1, p.2⟩) (fun _ => rfl)
theorem rds57 : Rds enc Tryd.prog k57 57 W57 :=
  Rds.iso (RdF.struct Tryd.underlying57 (RdF.cons rdI rfl (RdF.cons rds55 (by kernel_rfl) (RdF.one rds55 (by kernel_rfl)))) (by kernel_rfl)) _ (fun p => ⟨p.1, p.2.1, p.2.2⟩) (fun _ => rfl)
theorem rds22 : Rds enc Tryd.prog (Kd.slice 3 (Kd.int .i64)) 22 (fun l => l.length * 8 ≤ reachBytes ∧ ∀ a ∈ l, W64 a) := Rds.slice rdI Tryd.underlying22 (by kernel_rfl) (by kernel_rfl)
theorem rds23 : Rds enc Tryd.prog (Kd.slice 47 k47) 23 (fun l => l.length * 40 ≤ reachBytes ∧ ∀ a ∈ l, W47 a) := Rds.slice rds47 Tryd.underlying23 (by kernel_rfl) (by kernel_rfl)
theorem rds24 : Rds enc Tryd.prog (Kd.slice 57 k57) 24 (fun l => l.length * 40 ≤ reachBytes ∧ ∀ a ∈ l, W57 a) := Rds.slice rds57 Tryd.underlying24 (by kernel_rfl) (by kernel_rfl)
theorem rds26 : Rds enc Tryd.prog k26 26 (fun x => (x.f0.length * 8 ≤ reachBytes ∧ ∀ a ∈ x.f0, W64 a) ∧ (x.f1.length * 40 ≤ reachBytes ∧ ∀ a ∈ x.f1, W47 a) ∧ (x.f2.length * 40 ≤ reachBytes ∧ ∀ a ∈ x.f2, W57 a)) :=
  Rds.iso (RdF.struct Tryd.underlying26 (RdF.cons rds22 rfl (RdF.cons rds23 (by kernel_rfl) (RdF.one rds24 (by kernel_rfl)))) (by kernel_rfl)) _ (fun p => ⟨p.1, p.2.1, p.2.2⟩) (fun _ => rfl)
set_option maxRecDepth 100000 in
/-- A book that came in. -/
theorem open26 {W : World} {v : Value} {d : DataW H} {p : List MemPlace} {r : Reach} {b : Nat} (hv : Value.okWide Tryd.prog W r b 26 v) (h : DataW.Trod enc Tryd.prog W 0 (fun _ => true) true 26 v d p) (hz : (d.weights Tryd.prog 26).all (· ≤ reachBytes) = true) :
    ∃ A0 c0 l0 A1 c1 l1 A2 c2 l2, v = .agg #[.slice A0 l0.length c0, .slice A1 l1.length c1, .slice A2 l2.length c2] ∧ Kd.C (Kd.int .i64) W A0 l0.length l0 ∧ l0.length ≤ c0 ∧ Kd.C k47 W A1 l1.length l1 ∧ l1.length ≤ c1 ∧ Kd.C k57 W A2 l2.length l2 ∧ l2.length ≤ c2 ∧
      l0.length * 8 ≤ 140737488351232 ∧ l1.length * 40 ≤ 140737488351232 ∧ l2.length * 40 ≤ 140737488351232 ∧ (∀ a ∈ l0, W64 a) ∧ (∀ a ∈ l1, W47 a) ∧ (∀ a ∈ l2, W57 a) := by
  obtain ⟨cs, rfl, _⟩ := okWide_struct Tryd.underlying26 hv
  obtain ⟨n, hf⟩ := h
  have hex := rds26 W n _ _ hf hz
  generalize hR : reachBytes = R at hex
  obtain ⟨x, hK, hz0, hz1, hz2⟩ := hex
  have hR' : R = 140737488351232 := hR.symm.trans (by kernel_rfl)
  obtain ⟨A0, c0, A1, c1, A2, c2, hcs, g0, r0, g1, r1, g2, r2⟩ := k26_open hK
  have hcs' : cs = #[.slice A0 x.f0.length c0, .slice A1 x.f1.length c1, .slice A2 x.f2.length c2] := Array.toList_inj.1 hcs
  rw [← hR']
  exact ⟨A0, c0, x.f0, A1, c1, x.f1, A2, c2, x.f2, by rw [hcs'], r0, g0, r1, g1, r2, g2, hz0.1, hz1.1, hz2.1, hz0.2, hz1.2, hz2.2⟩
theorem gFates : Tryd.prog.globalNamed "wishbook/lack.fates" = some 0 := by kernel_rfl
theorem tFates : (Tryd.prog.globals[0]?).map (·.type) = some 115 := by kernel_rfl
theorem cells115 : Tryd.prog.cellsOf 115 = 3 := by kernel_rfl
theorem cells114 : Tryd.prog.cellsOf 114 = 1 := by kernel_rfl
theorem row0 : (((begin Tryd.prog (fun _ _ => 0) default).world.heap[0]?).bind Obj.row?).map Prod.snd = some 115 := by kernel_rfl
theorem globals0 : 0 < Tryd.prog.globals.size := of_decide_eq_true (by kernel_rfl)
set_option maxRecDepth 100000 in
/-- What the condition gives the walks: the table's block. -/
theorem fates_of {W : World} (hsh : W.ShapedOpen Tryd.prog) (h : laidMetH Tryd.prog [("wishbook/lack.fates", Rows.laid_wishbook_lack_fates)] W) : Fates W := by
  obtain ⟨g, t, cs, fuel, p, hg, ht, hv, hd⟩ := h.funcs (List.mem_singleton.2 rfl)
  obtain rfl := Option.some.inj (gFates.symm.trans hg)
  obtain rfl := Option.some.inj (tFates.symm.trans ht)
  obtain ⟨xs, m, rfl, hx, hl, hlen, hi⟩ := DataW.trod_array Tryd.underlying115 hd
  rw [cells115, Array.length_toList] at hl
  obtain ⟨l⟩ := cs
  match l, hl, xs, hlen with
  | [a, b, c], _, [y0, y1, y2], _ =>
    rw [cells114] at hi
    have h0 : DataW.trod (funcToken Tryd.prog) Tryd.prog W 0 (fun _ => true) true m 114 [a] = some y0 := hi 0 (by decide)
    have h1 : DataW.trod (funcToken Tryd.prog) Tryd.prog W 0 (fun _ => true) true m 114 [b] = some y1 := hi 1 (by decide)
    have h2 : DataW.trod (funcToken Tryd.prog) Tryd.prog W 0 (fun _ => true) true m 114 [c] = some y2 := hi 2 (by decide)
    obtain ⟨hx, _⟩ := Prod.mk.inj hx
    have hx' : DataW.agg [DataW.held [40, 42, 119, 105, 115, 104, 98, 111, 111, 107, 47, 108, 97, 99, 107, 46, 98, 111, 111, 107, 41, 46, 115, 101, 110, 116], DataW.held [40, 42, 119, 105, 115, 104, 98, 111, 111, 107, 47, 108, 97, 99, 107, 46, 98, 111, 111, 107, 41, 46, 105, 110, 115, 116, 101, 97, 100], DataW.held [40, 42, 119, 105, 115, 104, 98, 111, 111, 107, 47, 108, 97, 99, 107, 46, 98, 111, 111, 107, 41, 46, 108, 105, 115, 116, 101, 100]] = DataW.agg [y0.1, y1.1, y2.1] := hx
    injection hx' with hx'
    injection hx' with e0 hx'
    injection hx' with e1 hx'
    injection hx' with e2 _
    obtain ⟨y0a, y0b⟩ := y0
    obtain ⟨y1a, y1b⟩ := y1
    obtain ⟨y2a, y2b⟩ := y2
    subst e0 e1 e2
    obtain rfl := func_of_trod (f0 := 120) Tryd.underlying114 (by kernel_rfl) h0
    obtain rfl := func_of_trod (f0 := 121) Tryd.underlying114 (by kernel_rfl) h1
    obtain rfl := func_of_trod (f0 := 122) Tryd.underlying114 (by kernel_rfl) h2
    obtain ⟨⟨zero, ty⟩, hz, hty⟩ := Option.map_eq_some_iff.1 row0
    obtain rfl : ty = 115 := hty
    obtain ⟨cs, hb, _⟩ := hsh.1 0 zero 115 globals0 hz
    unfold World.var? at hv
    rw [gFates] at hv
    simp only [Option.bind_some, hb] at hv
    cases hv
    exact hb
theorem few_of {l0 : List Int} {l1 : List S47} {l2 : List S57} (h0 : l0.length * 8 ≤ 140737488351232) (h1 : l1.length * 40 ≤ 140737488351232) (h2 : l2.length * 40 ≤ 140737488351232) : Few l0 l1 l2 := ⟨by omega, by omega, by omega⟩
end
end Go.Proofs.YtegpepnmnlockaaDoor.PL
namespace Go.Proofs.YtegpepnmnlockaaDoor.PL
open Go.RowKit Go.ChangeShapes Go.WideShapes Go.Deep Go.Proofs.YtegpepnmnlockaaDoorW.PrintWords Go.Proofs.YtegpepnmnlockaaDoorW.PrintLast Go.Proofs.YtegpepnmnlockaaDoorW.PrintMore
set_option linter.unusedVariables false
set_option linter.unusedSimpArgs false
section
variable {H : Type} {enc : TypeId × Value → H}
set_option maxRecDepth 100000 in
theorem open22 {W : World} {v : Value} {d : DataW H} {p : List MemPlace} {r : Reach} {b : Nat} (hv : Value.okWide Tryd.prog W r b 22 v) (h : DataW.Trod enc Tryd.prog W 0 (fun _ => true) true 22 v d p) (hz : (d.weights Tryd.prog 22).all (· ≤ reachBytes) = true) :
    ∃ A c l, v = .slice A l.length c ∧ Kd.C (Kd.int .i64) W A l.length l ∧ l.length ≤ c ∧ l.length * 8 ≤ 140737488351232 ∧ (∀ a ∈ l, W64 a) := by
  obtain ⟨a0, n0, c0, rfl⟩ := okWide_slice Tryd.underlying22 hv
  obtain ⟨n, hf⟩ := h
  have hex := rds22 W n _ _ hf hz
  generalize hR : reachBytes = R at hex
  obtain ⟨l, ⟨A, c, hcs, hl, hC⟩, hlen, hw⟩ := hex
  have hR' : R = 140737488351232 := hR.symm.trans (by kernel_rfl)
  have he : Value.slice a0 n0 c0 = .slice A l.length c := by
    have hcs' : [Value.slice a0 n0 c0] = [Value.slice A l.length c] := hcs
    exact (List.cons.inj hcs').1
  rw [← hR']
  exact ⟨A, c, l, he, hC, hl, hlen, hw⟩
set_option maxRecDepth 100000 in
theorem open65 {W : World} {v : Value} {d : DataW H} {p : List MemPlace} {r : Reach} {b : Nat} (hv : Value.okWide Tryd.prog W r b 65 v) (h : DataW.Trod enc Tryd.prog W 0 (fun _ => true) true 65 v d p) :
    ∃ n0 n1 n2 : Int, v = .agg #[.int .i64 n0, .int .i64 n1, .int .i64 n2] := by
  obtain ⟨cs, rfl, hs⟩ : ∃ cs, v = .agg cs ∧ cs.size = Tryd.prog.cellsOf 65 := by
    simp only [Value.okWide, Tryd.underlying65] at hv
    obtain ⟨cs, h1, h2, _⟩ := hv
    exact ⟨cs, h1, h2⟩
  rw [show Tryd.prog.cellsOf 65 = 3 by kernel_rfl] at hs
  obtain ⟨n, hf⟩ := h
  obtain ⟨l⟩ := cs
  match l, hs with
  | [x, y, z], _ =>
    obtain ⟨y0, y1, y2, m, _, g0, g1, g2⟩ := trod_array3 Tryd.underlying65 (by kernel_rfl) (show DataW.trod enc Tryd.prog W 0 (fun _ => true) true n 65 [x, y, z] = some (d, p) from hf)
    obtain ⟨a0, e0, _, _⟩ := DataW.trod_int Tryd.underlying3 g0
    obtain ⟨a1, e1, _, _⟩ := DataW.trod_int Tryd.underlying3 g1
    obtain ⟨a2, e2, _, _⟩ := DataW.trod_int Tryd.underlying3 g2
    cases e0; cases e1; cases e2
    exact ⟨a0, a1, a2, rfl⟩
end
end Go.Proofs.YtegpepnmnlockaaDoor.PL

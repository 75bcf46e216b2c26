/- Part 3 of a proof: what the last text rests on. -/
import Derived.Test.YtegpepnmnlockaaDoorXLackComes2
namespace Go.Proofs.YtegpepnmnlockaaDoor.PL
open Go.RowKit Go.Proofs.YtegpepnmnlockaaDoorW.PrintWords Go.Proofs.YtegpepnmnlockaaDoorW.PrintLast Go.Proofs.YtegpepnmnlockaaDoorW.PrintMore
set_option linter.unusedVariables false
set_option linter.unusedSimpArgs false
/-- The chapter's book. -/
def bk0 : List Int := [5, 2, 0]
def bk1 : List S47 := [⟨0, 0, 3, 10, -1⟩, ⟨0, 1, 4, 20, 0⟩, ⟨1, 2, 6, 30, -1⟩, ⟨2, 2, 5, 15, -1⟩, ⟨2, 0, 2, 40, -1⟩]
def bk2 : List S57 := [⟨2, ⟨5, 12⟩, ⟨4, 6⟩⟩, ⟨2, ⟨20, 28⟩, ⟨3, 9⟩⟩, ⟨0, ⟨30, 35⟩, ⟨1, 1⟩⟩]
def bkt : List S59 := [⟨6, 5⟩, ⟨20, 5⟩, ⟨30, 1⟩]
def bks : List S49 := [⟨3, 0, 0, 0⟩, ⟨2, 2, 0, 0⟩, ⟨0, 0, 6, 0⟩, ⟨0, 0, 1, 4⟩, ⟨0, 0, 1, 1⟩]
def bkp : List Int := [1, 0, 7]
def bkq : List Int := [1, 0, 4]
def bkw : List Int := [0]
def bkl : List Int := [0, 0, 0]
def bkb : List Int := [2, 3]
theorem book_val : wishbooklaw10_book.f = some (bk0, bk1, bk2) := by kernel_rfl
theorem then_val : wishbooklaw10_then.f = some bkt := by kernel_rfl
theorem shares_val : wishbooklaw10_shares.f = some bks := by kernel_rfl
theorem surely_val : lack_Surely.f bk0 bk1 bk2 2 28 = some (7, 0) := by kernel_rfl
theorem sharesL_val : lack_Shares.f bk0 bk1 bk2 = some (bks, 0) := by kernel_rfl
theorem missing_val : lack_Missing.f bk0 bk1 bk2 = some (bkp, bkq, 0) := by kernel_rfl
theorem whole_val : lack_Whole.f bk0 bk1 bk2 = some (bkw, 0) := by kernel_rfl
theorem left_val : lack_Left.f bk0 bk1 bk2 = some (bkl, 0) := by kernel_rfl
theorem bk_ok : okB bk0 bk1 bk2 = true := by kernel_rfl
theorem come_val : lack_Come.f bk0 bk1 bk2 2 bkt = some (20, 0) := by
  have h : lack_Come.f bk0 bk1 bk2 2 bkt = some (thereF bk1 bk2 (servF bk0 bk1 bk2).2 2 bkt, 0) := by kernel_rfl
  have hp : 0 < (rd_T49 (servF bk0 bk1 bk2).2 (2 : Nat)).f2 := of_decide_eq_true (by kernel_rfl)
  have hv : dayF (fun d => cameBy bk2 bkt (rd_T47 bk1 (2 : Nat)).f1 d bkt.length) (needG bk1 (servF bk0 bk1 bk2).2 2 bk1.length) 101 0 = 20 := by kernel_rfl
  exact h.trans (congrArg (fun x => some (x, (0 : Int))) ((there_plain bk1 bk2 _ 2 bkt (fun i => (share_bd (servF_ok bk_ok).2 i).1) (by decide) hp).trans hv))
theorem last_val : lack_Last.f bk0 bk1 bk2 2 = some (28, 0) := by
  have h : lack_Last.f bk0 bk1 bk2 2 = some (thereF bk1 bk2 (servF bk0 bk1 bk2).2 2 (lastCame bk2), 0) := by kernel_rfl
  have hp : 0 < (rd_T49 (servF bk0 bk1 bk2).2 (2 : Nat)).f2 := of_decide_eq_true (by kernel_rfl)
  have hv : dayF (fun d => cameBy bk2 (lastCame bk2) (rd_T47 bk1 (2 : Nat)).f1 d (lastCame bk2).length) (needG bk1 (servF bk0 bk1 bk2).2 2 bk1.length) 101 0 = 28 := by kernel_rfl
  exact h.trans (congrArg (fun x => some (x, (0 : Int))) ((there_plain bk1 bk2 _ 2 (lastCame bk2) (fun i => (share_bd (servF_ok bk_ok).2 i).1) (by decide) hp).trans hv))
theorem late_val : lack_Late.f bk0 bk1 bk2 0 = some (3, 0) := by kernel_rfl
theorem broken_val : lack_Broken.f bk0 bk1 bk2 1 = some (bkb, 0) := by kernel_rfl
theorem same_val : wishbookref10_SameShares.f 20 bks bks = some true := by kernel_rfl
theorem matchp_val : wishbookref00_Match.f 20 bkp bkp = some true := by kernel_rfl
theorem matchq_val : wishbookref00_Match.f 20 bkq bkq = some true := by kernel_rfl
theorem matchw_val : wishbookref00_Match.f 20 bkw bkw = some true := by kernel_rfl
theorem matchl_val : wishbookref00_Match.f 20 bkl bkl = some true := by kernel_rfl
theorem matchb_val : wishbookref00_Match.f 20 bkb bkb = some true := by kernel_rfl
/-- The chapter's book, read. -/
def BookC (w : World) (A0 A1 A2 : Option Addr) (c0 c1 c2 : Nat) : Prop := Kd.C (Kd.int .i64) w A0 bk0.length bk0 ∧ bk0.length ≤ c0 ∧ Kd.C k47 w A1 bk1.length bk1 ∧ bk1.length ≤ c1 ∧ Kd.C k57 w A2 bk2.length bk2 ∧ bk2.length ≤ c2
theorem book_calls (w : World) : Calls Tryd.prog 43 #[] w fun e w' => ∃ A0 c0 A1 c1 A2 c2, e = .returned (.agg #[.slice A0 bk0.length c0, .slice A1 bk1.length c1, .slice A2 bk2.length c2]) ∧ BookC w' A0 A1 A2 c0 c1 c2 ∧ Below w.heap.size w w' :=
  (wishbooklaw10_book.calls bk0 bk1 bk2 w book_val).mono fun e w' ⟨v0, v1, v2, he, h0, h1, h2, hb⟩ => by
    obtain ⟨A0, c0, rfl, g0, r0⟩ := Kd.R_reads h0
    obtain ⟨A1, c1, rfl, g1, r1⟩ := Kd.R_reads h1
    obtain ⟨A2, c2, rfl, g2, r2⟩ := Kd.R_reads h2
    exact ⟨A0, c0, A1, c1, A2, c2, he, ⟨r0, g0, r1, g1, r2, g2⟩, hb⟩
theorem same_calls (A B : Option Addr) (c d : Nat) (W : World) (h1 : Kd.C k49 W A bks.length bks) (g1 : bks.length ≤ c) (h2 : Kd.C k49 W B bks.length bks) (g2 : bks.length ≤ d) :
    Calls Tryd.prog 37 #[.slice A bks.length c, .slice B bks.length d] W fun e w' => e = .returned (.bool true) ∧ Below W.heap.size W w' :=
  (wishbookref10_SameShares.calls 20 A c bks B d bks true W h1 g1 h2 g2 same_val).mono fun e w' ⟨he, nd, hw⟩ => ⟨he, by rw [hw]; exact pw_below_drewN (Below.refl _ _) nd⟩
theorem match_calls (A : Option Addr) (c p n : Nat) (xs : List Int) (W : World) (h1 : Kd.C (Kd.int .i64) W A xs.length xs) (g1 : xs.length ≤ c) (hp : W.heap[p]? = some (.cells (nums .i64 xs).toArray 3 (0, 0))) (hn : xs.length = n) (hm : n ≤ 1000) (hv : wishbookref00_Match.f 20 xs xs = some true) :
    Calls Tryd.prog 16 #[.slice A xs.length c, .slice (some ⟨p, 0, none⟩) n n] W fun e w' => e = .returned (.bool true) ∧ Below W.heap.size W w' := by
  have hV := Kd.V_reads' (nums_V (base := 0) hp hn (Nat.zero_le _) hm)
  subst hn
  exact (wishbookref00_Match.calls 20 A c xs (some ⟨p, 0, none⟩) xs.length xs true W h1 g1 hV.2.2 hV.2.1 hv).mono fun e w' ⟨he, nd, hw⟩ => ⟨he, by rw [hw]; exact pw_below_drewN (Below.refl _ _) nd⟩
def wishbooklaw10_listed.f : Option Bool := some true
set_option maxHeartbeats 8000000 in
set_option maxRecDepth 100000 in
theorem wishbooklaw10_listed.calls (r : Bool) (w : World) (hfa : Fates w) (h : wishbooklaw10_listed.f = some r) :
    Calls Tryd.prog 19 #[] w fun e w' => e = .returned (.bool r) ∧ Below w.heap.size w w' := by
  cases h
  have HFA := Aside0.mk hfa
  clear hfa
  have HB := Aside0.mk (Below.refl w.heap.size w)
  go_enter Tryd.func19, Tryd.ntmps19
  go_wp2_with (fail)
  refine (book_calls _).mono ?_
  rintro e w1 ⟨A0, c0, A1, c1, A2, c2, rfl, hbc, hb⟩
  have HB_ := Aside0.mk (below_step HB.out hb)
  clear HB hb
  have HB := HB_
  clear HB_
  have HC := Aside0.mk hbc
  clear hbc
  go_wp2_with (fail)
  refine (lack_Surely.calls A0 c0 bk0 A1 c1 bk1 A2 c2 bk2 2 28 7 0 _ HC.out.1 HC.out.2.1 HC.out.2.2.1 HC.out.2.2.2.1 HC.out.2.2.2.2.1 HC.out.2.2.2.2.2 (Fates.below HFA.out HB.out) surely_val).mono ?_
  rintro e w2 ⟨rfl, hb⟩
  have HB_ := Aside0.mk (below_step HB.out hb)
  clear HB hb
  have HB := HB_
  clear HB_
  clear HC
  go_wp2_with (fail)
  refine (book_calls _).mono ?_
  rintro e w1 ⟨A0, c0, A1, c1, A2, c2, rfl, hbc, hb⟩
  have HB_ := Aside0.mk (below_step HB.out hb)
  clear HB hb
  have HB := HB_
  clear HB_
  have HC := Aside0.mk hbc
  clear hbc
  go_wp2_with (fail)
  refine (lack_Shares.calls A0 c0 bk0 A1 c1 bk1 A2 c2 bk2 bks 0 _ HC.out.1 HC.out.2.1 HC.out.2.2.1 HC.out.2.2.2.1 HC.out.2.2.2.2.1 HC.out.2.2.2.2.2 (Fates.below HFA.out HB.out) sharesL_val).mono ?_
  rintro e w2 ⟨s, rfl, hs, hb⟩
  have HB_ := Aside0.mk (below_step HB.out hb)
  clear HB hb
  have HB := HB_
  clear HB_
  obtain ⟨As, cs, rfl⟩ := Kd.V_slice hs
  have HVs := Aside0.mk hs
  clear hs
  clear HC
  go_wp2_with (fail)
  refine (book_calls _).mono ?_
  rintro e w1 ⟨A0, c0, A1, c1, A2, c2, rfl, hbc, hb⟩
  have HVs_ := Aside0.mk (Kd.V_below HVs.out hb)
  clear HVs
  have HVs := HVs_
  clear HVs_
  have HB_ := Aside0.mk (below_step HB.out hb)
  clear HB hb
  have HB := HB_
  clear HB_
  have HC := Aside0.mk hbc
  clear hbc
  go_wp2_with (fail)
  refine (lack_Missing.calls A0 c0 bk0 A1 c1 bk1 A2 c2 bk2 bkp bkq 0 _ HC.out.1 HC.out.2.1 HC.out.2.2.1 HC.out.2.2.2.1 HC.out.2.2.2.2.1 HC.out.2.2.2.2.2 (Fates.below HFA.out HB.out) missing_val).mono ?_
  rintro e w2 ⟨p, q, rfl, hp, hq, hb⟩
  have HVs_ := Aside0.mk (Kd.V_below HVs.out hb)
  clear HVs
  have HVs := HVs_
  clear HVs_
  have HB_ := Aside0.mk (below_step HB.out hb)
  clear HB hb
  have HB := HB_
  clear HB_
  obtain ⟨Ap, cp, rfl⟩ := Kd.V_slice hp
  have HVp := Aside0.mk hp
  clear hp
  obtain ⟨Aq, cq, rfl⟩ := Kd.V_slice hq
  have HVq := Aside0.mk hq
  clear hq
  clear HC
  go_wp2_with (fail)
  refine (book_calls _).mono ?_
  rintro e w1 ⟨A0, c0, A1, c1, A2, c2, rfl, hbc, hb⟩
  have HVs_ := Aside0.mk (Kd.V_below HVs.out hb)
  clear HVs
  have HVs := HVs_
  clear HVs_
  have HVp_ := Aside0.mk (Kd.V_below HVp.out hb)
  clear HVp
  have HVp := HVp_
  clear HVp_
  have HVq_ := Aside0.mk (Kd.V_below HVq.out hb)
  clear HVq
  have HVq := HVq_
  clear HVq_
  have HB_ := Aside0.mk (below_step HB.out hb)
  clear HB hb
  have HB := HB_
  clear HB_
  have HC := Aside0.mk hbc
  clear hbc
  go_wp2_with (fail)
  refine (lack_Whole.calls A0 c0 bk0 A1 c1 bk1 A2 c2 bk2 bkw 0 _ HC.out.1 HC.out.2.1 HC.out.2.2.1 HC.out.2.2.2.1 HC.out.2.2.2.2.1 HC.out.2.2.2.2.2 (Fates.below HFA.out HB.out) whole_val).mono ?_
  rintro e w2 ⟨v, rfl, hv, hb⟩
  have HVs_ := Aside0.mk (Kd.V_below HVs.out hb)
  clear HVs
  have HVs := HVs_
  clear HVs_
  have HVp_ := Aside0.mk (Kd.V_below HVp.out hb)
  clear HVp
  have HVp := HVp_
  clear HVp_
  have HVq_ := Aside0.mk (Kd.V_below HVq.out hb)
  clear HVq
  have HVq := HVq_
  clear HVq_
  have HB_ := Aside0.mk (below_step HB.out hb)
  clear HB hb
  have HB := HB_
  clear HB_
  obtain ⟨Av, cv, rfl⟩ := Kd.V_slice hv
  have HVv := Aside0.mk hv
  clear hv
  clear HC
  go_wp2_with (fail)
  refine (wishbooklaw10_shares.calls bks _ shares_val).mono ?_
  rintro e w3 ⟨v3, rfl, ho3, hb⟩
  have HVs_ := Aside0.mk (Kd.V_below HVs.out hb)
  clear HVs
  have HVs := HVs_
  clear HVs_
  have HVp_ := Aside0.mk (Kd.V_below HVp.out hb)
  clear HVp
  have HVp := HVp_
  clear HVp_
  have HVq_ := Aside0.mk (Kd.V_below HVq.out hb)
  clear HVq
  have HVq := HVq_
  clear HVq_
  have HVv_ := Aside0.mk (Kd.V_below HVv.out hb)
  clear HVv
  have HVv := HVv_
  clear HVv_
  have HB_ := Aside0.mk (below_step HB.out hb)
  clear HB hb
  have HB := HB_
  clear HB_
  obtain ⟨A3, c3, rfl, g3, r3⟩ := Kd.R_reads ho3
  clear ho3
  go_wp2_with (fail)
  refine (same_calls As A3 cs c3 _ (Kd.V_reads' HVs.out).2.2 (Kd.V_reads' HVs.out).2.1 r3 g3).mono ?_
  rintro e w4 ⟨rfl, hb⟩
  have HVs_ := Aside0.mk (Kd.V_below HVs.out hb)
  clear HVs
  have HVs := HVs_
  clear HVs_
  have HVp_ := Aside0.mk (Kd.V_below HVp.out hb)
  clear HVp
  have HVp := HVp_
  clear HVp_
  have HVq_ := Aside0.mk (Kd.V_below HVq.out hb)
  clear HVq
  have HVq := HVq_
  clear HVq_
  have HVv_ := Aside0.mk (Kd.V_below HVv.out hb)
  clear HVv
  have HVv := HVv_
  clear HVv_
  have HB_ := Aside0.mk (below_step HB.out hb)
  clear HB hb
  have HB := HB_
  clear HB_
  clear HVs
  go_wp2_with (fail)
  refine (match_calls Ap cp _ 3 bkp _ (Kd.V_reads' (Kd.V_alloc HVp.out _)).2.2 (Kd.V_reads' HVp.out).2.1 (heap_alloc_new _ _) rfl (by decide) matchp_val).mono ?_
  rintro e w5 ⟨rfl, hb⟩
  clear HVp
  have HVq_ := Aside0.mk (Kd.V_below (Kd.V_alloc HVq.out _) hb)
  clear HVq
  have HVq := HVq_
  clear HVq_
  have HVv_ := Aside0.mk (Kd.V_below (Kd.V_alloc HVv.out _) hb)
  clear HVv
  have HVv := HVv_
  clear HVv_
  have HB_ := Aside0.mk (below_step (below_alloc HB.out _) hb)
  clear HB hb
  have HB := HB_
  clear HB_
  go_wp2_with (fail)
  refine (match_calls Aq cq _ 3 bkq _ (Kd.V_reads' (Kd.V_alloc HVq.out _)).2.2 (Kd.V_reads' HVq.out).2.1 (heap_alloc_new _ _) rfl (by decide) matchq_val).mono ?_
  rintro e w5 ⟨rfl, hb⟩
  clear HVq
  have HVv_ := Aside0.mk (Kd.V_below (Kd.V_alloc HVv.out _) hb)
  clear HVv
  have HVv := HVv_
  clear HVv_
  have HB_ := Aside0.mk (below_step (below_alloc HB.out _) hb)
  clear HB hb
  have HB := HB_
  clear HB_
  go_wp2_with (fail)
  refine (match_calls Av cv _ 1 bkw _ (Kd.V_reads' (Kd.V_alloc HVv.out _)).2.2 (Kd.V_reads' HVv.out).2.1 (heap_alloc_new _ _) rfl (by decide) matchw_val).mono ?_
  rintro e w5 ⟨rfl, hb⟩
  clear HVv
  have HB_ := Aside0.mk (below_step (below_alloc HB.out _) hb)
  clear HB hb
  have HB := HB_
  clear HB_
  go_wp2_with (fail)
  refine (book_calls _).mono ?_
  rintro e w1 ⟨A0, c0, A1, c1, A2, c2, rfl, hbc, hb⟩
  have HB_ := Aside0.mk (below_step HB.out hb)
  clear HB hb
  have HB := HB_
  clear HB_
  have HC := Aside0.mk hbc
  clear hbc
  go_wp2_with (fail)
  refine (lack_Left.calls A0 c0 bk0 A1 c1 bk1 A2 c2 bk2 bkl 0 _ HC.out.1 HC.out.2.1 HC.out.2.2.1 HC.out.2.2.2.1 HC.out.2.2.2.2.1 HC.out.2.2.2.2.2 (Fates.below HFA.out HB.out) left_val).mono ?_
  rintro e w2 ⟨l, rfl, hl, hb⟩
  have HB_ := Aside0.mk (below_step HB.out hb)
  clear HB hb
  have HB := HB_
  clear HB_
  obtain ⟨Al, cl, rfl⟩ := Kd.V_slice hl
  have HVl := Aside0.mk hl
  clear hl
  clear HC
  go_wp2_with (fail)
  refine (book_calls _).mono ?_
  rintro e w1 ⟨A0, c0, A1, c1, A2, c2, rfl, hbc, hb⟩
  have HVl_ := Aside0.mk (Kd.V_below HVl.out hb)
  clear HVl
  have HVl := HVl_
  clear HVl_
  have HB_ := Aside0.mk (below_step HB.out hb)
  clear HB hb
  have HB := HB_
  clear HB_
  have HC := Aside0.mk hbc
  clear hbc
  go_wp2_with (fail)
  refine (wishbooklaw10_then.calls bkt _ then_val).mono ?_
  rintro e w6 ⟨v6, rfl, ho6, hb⟩
  have HCn := Aside0.mk (show BookC _ A0 A1 A2 c0 c1 c2 from ⟨Kd.C_below HC.out.1 hb, HC.out.2.1, Kd.C_below HC.out.2.2.1 hb, HC.out.2.2.2.1, Kd.C_below HC.out.2.2.2.2.1 hb, HC.out.2.2.2.2.2⟩)
  clear HC
  have HC := HCn
  clear HCn
  have HVl_ := Aside0.mk (Kd.V_below HVl.out hb)
  clear HVl
  have HVl := HVl_
  clear HVl_
  have HB_ := Aside0.mk (below_step HB.out hb)
  clear HB hb
  have HB := HB_
  clear HB_
  obtain ⟨A6, c6, rfl, g6, r6⟩ := Kd.R_reads ho6
  clear ho6
  go_wp2_with (fail)
  refine (lack_Come.calls A0 c0 bk0 A1 c1 bk1 A2 c2 bk2 2 A6 c6 bkt 20 0 _ HC.out.1 HC.out.2.1 HC.out.2.2.1 HC.out.2.2.2.1 HC.out.2.2.2.2.1 HC.out.2.2.2.2.2 r6 g6 (Fates.below HFA.out HB.out) come_val).mono ?_
  rintro e w7 ⟨rfl, hb⟩
  have HVl_ := Aside0.mk (Kd.V_below HVl.out hb)
  clear HVl
  have HVl := HVl_
  clear HVl_
  have HB_ := Aside0.mk (below_step HB.out hb)
  clear HB hb
  have HB := HB_
  clear HB_
  clear HC
  go_wp2_with (fail)
  refine (book_calls _).mono ?_
  rintro e w1 ⟨A0, c0, A1, c1, A2, c2, rfl, hbc, hb⟩
  have HVl_ := Aside0.mk (Kd.V_below HVl.out hb)
  clear HVl
  have HVl := HVl_
  clear HVl_
  have HB_ := Aside0.mk (below_step HB.out hb)
  clear HB hb
  have HB := HB_
  clear HB_
  have HC := Aside0.mk hbc
  clear hbc
  go_wp2_with (fail)
  refine (lack_Last.calls A0 c0 bk0 A1 c1 bk1 A2 c2 bk2 2 28 0 _ HC.out.1 HC.out.2.1 HC.out.2.2.1 HC.out.2.2.2.1 HC.out.2.2.2.2.1 HC.out.2.2.2.2.2 (Fates.below HFA.out HB.out) last_val).mono ?_
  rintro e w2 ⟨rfl, hb⟩
  have HVl_ := Aside0.mk (Kd.V_below HVl.out hb)
  clear HVl
  have HVl := HVl_
  clear HVl_
  have HB_ := Aside0.mk (below_step HB.out hb)
  clear HB hb
  have HB := HB_
  clear HB_
  clear HC
  go_wp2_with (fail)
  refine (book_calls _).mono ?_
  rintro e w1 ⟨A0, c0, A1, c1, A2, c2, rfl, hbc, hb⟩
  have HVl_ := Aside0.mk (Kd.V_below HVl.out hb)
  clear HVl
  have HVl := HVl_
  clear HVl_
  have HB_ := Aside0.mk (below_step HB.out hb)
  clear HB hb
  have HB := HB_
  clear HB_
  have HC := Aside0.mk hbc
  clear hbc
  go_wp2_with (fail)
  refine (lack_Late.calls A0 c0 bk0 A1 c1 bk1 A2 c2 bk2 0 3 0 _ HC.out.1 HC.out.2.1 HC.out.2.2.1 HC.out.2.2.2.1 HC.out.2.2.2.2.1 HC.out.2.2.2.2.2 (Fates.below HFA.out HB.out) late_val).mono ?_
  rintro e w2 ⟨rfl, hb⟩
  have HVl_ := Aside0.mk (Kd.V_below HVl.out hb)
  clear HVl
  have HVl := HVl_
  clear HVl_
  have HB_ := Aside0.mk (below_step HB.out hb)
  clear HB hb
  have HB := HB_
  clear HB_
  clear HC
  go_wp2_with (fail)
  refine (book_calls _).mono ?_
  rintro e w1 ⟨A0, c0, A1, c1, A2, c2, rfl, hbc, hb⟩
  have HVl_ := Aside0.mk (Kd.V_below HVl.out hb)
  clear HVl
  have HVl := HVl_
  clear HVl_
  have HB_ := Aside0.mk (below_step HB.out hb)
  clear HB hb
  have HB := HB_
  clear HB_
  have HC := Aside0.mk hbc
  clear hbc
  go_wp2_with (fail)
  refine (lack_Broken.calls A0 c0 bk0 A1 c1 bk1 A2 c2 bk2 1 bkb 0 _ HC.out.1 HC.out.2.1 HC.out.2.2.1 HC.out.2.2.2.1 HC.out.2.2.2.2.1 HC.out.2.2.2.2.2 (Fates.below HFA.out HB.out) broken_val).mono ?_
  rintro e w2 ⟨b, rfl, hb, hb⟩
  have HVl_ := Aside0.mk (Kd.V_below HVl.out hb)
  clear HVl
  have HVl := HVl_
  clear HVl_
  have HB_ := Aside0.mk (below_step HB.out hb)
  clear HB hb
  have HB := HB_
  clear HB_
  obtain ⟨Ab, cb, rfl⟩ := Kd.V_slice hb
  have HVb := Aside0.mk hb
  clear hb
  clear HC
  go_wp2_with (fail)
  refine (match_calls Al cl _ 3 bkl _ (Kd.V_reads' (Kd.V_alloc HVl.out _)).2.2 (Kd.V_reads' HVl.out).2.1 (heap_alloc_new _ _) rfl (by decide) matchl_val).mono ?_
  rintro e w5 ⟨rfl, hb⟩
  clear HVl
  have HVb_ := Aside0.mk (Kd.V_below (Kd.V_alloc HVb.out _) hb)
  clear HVb
  have HVb := HVb_
  clear HVb_
  have HB_ := Aside0.mk (below_step (below_alloc HB.out _) hb)
  clear HB hb
  have HB := HB_
  clear HB_
  go_wp2_with (fail)
  refine (match_calls Ab cb _ 2 bkb _ (Kd.V_reads' (Kd.V_alloc HVb.out _)).2.2 (Kd.V_reads' HVb.out).2.1 (heap_alloc_new _ _) rfl (by decide) matchb_val).mono ?_
  rintro e w5 ⟨rfl, hb⟩
  clear HVb
  have HB_ := Aside0.mk (below_step (below_alloc HB.out _) hb)
  clear HB hb
  have HB := HB_
  clear HB_
  go_wp2

  go_ret
  exact ⟨rfl, HB.out⟩
end Go.Proofs.YtegpepnmnlockaaDoor.PL
namespace Go.Proofs.YtegpepnmnlockaaDoor.PL
open Go.RowKit Go.Proofs.YtegpepnmnlockaaDoorW.PrintWords Go.Proofs.YtegpepnmnlockaaDoorW.PrintLast Go.Proofs.YtegpepnmnlockaaDoorW.PrintMore
attribute [local go_sem] max2_int min2_int max_two min_two max_three min_three max_four min_four   -- for this text's walks alone
set_option linter.unusedVariables false
set_option linter.unusedSimpArgs false
def wishbookref10_Missing.l0 : Nat → List (S49) → List Int → List Int → Int → List Int → List (S47) → List (S57) → Option (List Int × List Int × Int)
  | 0, _, _, _, _, _, _, _ => none
  | k + 1, x6, x8, x9, x10, x124000, x124001, x124002 => if x10 < (x6.length : Int) then (if 0 ≤ x10 then (if x10 < (x124001.length : Int) then (if 0 ≤ ((rd_T47 x124001 x10).f1) then (if ((rd_T47 x124001 x10).f1) < (x8.length : Int) then (if ((rd_T47 x124001 x10).f1) < (x9.length : Int) then (wishbookref10_Missing.l0 k x6 (x8.set (((rd_T47 x124001 x10).f1) : Int).toNat (wrap64 ((rd x8 ((rd_T47 x124001 x10).f1)) + ((rd_T49 x6 x10).f2)))) (x9.set (((rd_T47 x124001 x10).f1) : Int).toNat (wrap64 ((rd x9 ((rd_T47 x124001 x10).f1)) + ((rd_T49 x6 x10).f3)))) (wrap64 (x10 + 1)) x124000 x124001 x124002) else (none)) else (none)) else (none)) else (none)) else (none)) else (some (x8, x9, 0))
def wishbookref10_Missing.f (k : Nat) (l0_0 : List Int) (l0_1 : List (S47)) (l0_2 : List (S57)) : Option (List Int × List Int × Int) := (wishbookref10_Check.f l0_0 l0_1 l0_2).bind fun t124 => (if t124 = 0 then ((wishbookref10_served.f l0_0 l0_1 l0_2).bind fun bt125 => (if 0 ≤ (l0_0.length : Int) then (if ((l0_0.length : Int) : Int).toNat ≤ 35184372088832 then (wishbookref10_Missing.l0 k bt125.1 (List.replicate ((l0_0.length : Int) : Int).toNat 0) (List.replicate ((l0_0.length : Int) : Int).toNat 0) 0 l0_0 l0_1 l0_2) else (none)) else (none))) else (some (([] : List Int), ([] : List Int), t124)))
theorem wishbookref10_Missing.mono_l : ∀ k, (∀ y0 y1 y2 y3 y4 y5 y6, LeO (wishbookref10_Missing.l0 k y0 y1 y2 y3 y4 y5 y6) (wishbookref10_Missing.l0 (k + 1) y0 y1 y2 y3 y4 y5 y6))
  | 0 => fun _ _ _ _ _ _ _ r h => by simp [wishbookref10_Missing.l0] at h
  | k + 1 => by
    have ih0 := wishbookref10_Missing.mono_l k
    · intro y0 y1 y2 y3 y4 y5 y6
      unfold wishbookref10_Missing.l0
      repeat' first
      | (with_reducible exact ih0 _ _ _ _ _ _ _)
      | (with_reducible exact LeO.refl _)
      | (with_reducible exact LeO.none _)
      | (with_reducible refine LeO.ite ?_ ?_)
      | (with_reducible refine LeO.bind ?_ (fun _ => ?_))
      | exact ih0 _ _ _ _ _ _ _
      | exact LeO.none _
      | refine LeO.ite ?_ ?_
      | refine LeO.bind ?_ (fun _ => ?_)
theorem wishbookref10_Missing.mono : ∀ a0 a1 a2 k, LeO (wishbookref10_Missing.f k a0 a1 a2) (wishbookref10_Missing.f (k + 1) a0 a1 a2) := by
  intro a0 a1 a2 k
  have ih0 := wishbookref10_Missing.mono_l k
  unfold wishbookref10_Missing.f
  repeat' first
      | (with_reducible exact ih0 _ _ _ _ _ _ _)
      | (with_reducible exact LeO.refl _)
      | (with_reducible exact LeO.none _)
      | (with_reducible refine LeO.ite ?_ ?_)
      | (with_reducible refine LeO.bind ?_ (fun _ => ?_))
      | exact ih0 _ _ _ _ _ _ _
      | exact LeO.none _
      | refine LeO.ite ?_ ?_
      | refine LeO.bind ?_ (fun _ => ?_)
def wishbookref10_Missing.T5 : Bool × List (List Nat × List Nat) := (true, [([], []), ([0], [0]), ([1], [1]), ([2, 2], [2]), ([], []), ([4], [4]), ([5], [5]), ([6, 6], [6]), ([3, 0, 1, 2, 3], [3]), ([7, 8, 0, 1, 2, 3, 4, 5, 6, 7, 8], [7])])
def wishbookref10_Missing.B5 : List Nat := [0, 1, 3, 7, 0, 16, 48, 112, 15, 511]
theorem wishbookref10_Missing.tab5 : rtab .any (opsOf Tryd.f15 5) = wishbookref10_Missing.T5 := by kernel_rfl
theorem wishbookref10_Missing.bits5 : waitsOk wishbookref10_Missing.T5.2 wishbookref10_Missing.B5 = true := by kernel_rfl
def wishbookref10_Missing.T9 : Bool × List (List Nat × List Nat) := (true, [([], []), ([], []), ([1], [1]), ([], []), ([2, 3], [2, 3]), ([4], [4]), ([5], [5]), ([0, 6], [0, 6]), ([7], [7]), ([], []), ([], []), ([9, 10], [9, 10]), ([11], [11]), ([12], [12]), ([8, 13], [8, 13]), ([0, 6, 0, 1, 2, 3, 4, 5, 6, 7, 8, 9, 10, 11, 12, 13, 14], [0, 6]), ([15, 14, 0, 1, 2, 3, 4, 5, 6, 7, 8, 9, 10, 11, 12, 13, 14], [14, 15])])
def wishbookref10_Missing.B9 : List Nat := [0, 0, 2, 0, 14, 30, 62, 127, 255, 0, 0, 1536, 3584, 7680, 16383, 32767, 65535]
theorem wishbookref10_Missing.tab9 : rtab .any (opsOf Tryd.f15 9) = wishbookref10_Missing.T9 := by kernel_rfl
theorem wishbookref10_Missing.bits9 : waitsOk wishbookref10_Missing.T9.2 wishbookref10_Missing.B9 = true := by kernel_rfl
def wishbookref10_Missing.T10 : Bool × List (List Nat × List Nat) := (true, [([], []), ([], []), ([1], [1]), ([], []), ([2, 3], [2, 3]), ([4], [4]), ([5], [5]), ([0, 6], [0, 6]), ([7], [7]), ([], []), ([], []), ([9, 10], [9, 10]), ([11], [11]), ([12], [12]), ([8, 13], [8, 13]), ([0, 6, 0, 1, 2, 3, 4, 5, 6, 7, 8, 9, 10, 11, 12, 13, 14], [0, 6]), ([15, 14, 0, 1, 2, 3, 4, 5, 6, 7, 8, 9, 10, 11, 12, 13, 14], [14, 15])])
def wishbookref10_Missing.B10 : List Nat := [0, 0, 2, 0, 14, 30, 62, 127, 255, 0, 0, 1536, 3584, 7680, 16383, 32767, 65535]
theorem wishbookref10_Missing.tab10 : rtab .any (opsOf Tryd.f15 10) = wishbookref10_Missing.T10 := by kernel_rfl
theorem wishbookref10_Missing.bits10 : waitsOk wishbookref10_Missing.T10.2 wishbookref10_Missing.B10 = true := by kernel_rfl
set_option maxHeartbeats 8000000 in
set_option maxRecDepth 100000 in
theorem wishbookref10_Missing.calls (k : Nat) (A0_0 : Option Addr) (c0_0 : Nat) (l0_0 : List Int) (A0_1 : Option Addr) (c0_1 : Nat) (l0_1 : List (S47)) (A0_2 : Option Addr) (c0_2 : Nat) (l0_2 : List (S57)) (r1 : List Int) (r2 : List Int) (r3 : Int) (w : World) (hr0_0 : Kd.C (Kd.int .i64) w A0_0 l0_0.length l0_0) (hc0_0 : l0_0.length ≤ c0_0) (hr0_1 : Kd.C k47 w A0_1 l0_1.length l0_1) (hc0_1 : l0_1.length ≤ c0_1) (hr0_2 : Kd.C k57 w A0_2 l0_2.length l0_2) (hc0_2 : l0_2.length ≤ c0_2) (h : wishbookref10_Missing.f k l0_0 l0_1 l0_2 = some (r1, r2, r3)) :
    Calls Tryd.prog 15 #[.agg #[.slice A0_0 l0_0.length c0_0, .slice A0_1 l0_1.length c0_1, .slice A0_2 l0_2.length c0_2]] w fun e w' => ∃ v0_ v1_ : Value, e = .returned (.tuple #[v0_, v1_, .int .i64 r3]) ∧ Kd.R (Kd.int .i64) 3 w' w.heap.size (fun k_ => some k_ ≠ (v1_ : Value).ownBlock) v0_ r1 ∧ Kd.R (Kd.int .i64) 3 w' w.heap.size (fun k_ => some k_ ≠ (v0_ : Value).ownBlock) v1_ r2 ∧ Below w.heap.size w w' := by
  have hu26 := Tryd.underlying26
  have HR0_0 := Aside0.mk hr0_0
  have HC0_0 := Aside0.mk hc0_0
  clear hr0_0 hc0_0
  have HR0_1 := Aside0.mk hr0_1
  have HC0_1 := Aside0.mk hc0_1
  clear hr0_1 hc0_1
  have HR0_2 := Aside0.mk hr0_2
  have HC0_2 := Aside0.mk hc0_2
  clear hr0_2 hc0_2
  have HB := Aside0.mk (Below.refl w.heap.size w)
  have H : ((wishbookref10_Check.f l0_0 l0_1 l0_2).bind fun t124 => (if t124 = 0 then ((wishbookref10_served.f l0_0 l0_1 l0_2).bind fun bt125 => (if 0 ≤ (l0_0.length : Int) then (if ((l0_0.length : Int) : Int).toNat ≤ 35184372088832 then (wishbookref10_Missing.l0 k bt125.1 (List.replicate ((l0_0.length : Int) : Int).toNat 0) (List.replicate ((l0_0.length : Int) : Int).toNat 0) 0 l0_0 l0_1 l0_2) else (none)) else (none))) else (some (([] : List Int), ([] : List Int), t124)))) = some (r1, r2, r3) := h
  clear h
  replace H := Option.bind_eq_some_iff.mp H
  obtain ⟨t124, A20, H⟩ := H
  replace H : (if t124 = 0 then ((wishbookref10_served.f l0_0 l0_1 l0_2).bind fun bt125 => (if 0 ≤ (l0_0.length : Int) then (if ((l0_0.length : Int) : Int).toNat ≤ 35184372088832 then (wishbookref10_Missing.l0 k bt125.1 (List.replicate ((l0_0.length : Int) : Int).toNat 0) (List.replicate ((l0_0.length : Int) : Int).toNat 0) 0 l0_0 l0_1 l0_2) else (none)) else (none))) else (some (([] : List Int), ([] : List Int), t124))) = some (r1, r2, r3) := H
  have A2 := Aside0.mk A20
  clear A20
  by_cases c3 : t124 = 0
  · rw [if_pos c3] at H
    have c3b0 : (t124 == 0) = true := beq_iff_eq.mpr c3
    have c3b1 : (t124 != 0) = false := bne_eq_false_iff_eq.mpr c3
    clear c3
    replace H := Option.bind_eq_some_iff.mp H
    obtain ⟨⟨t125, t128⟩, A40, H⟩ := H
    replace H : (if 0 ≤ (l0_0.length : Int) then (if ((l0_0.length : Int) : Int).toNat ≤ 35184372088832 then (wishbookref10_Missing.l0 k t125 (List.replicate ((l0_0.length : Int) : Int).toNat 0) (List.replicate ((l0_0.length : Int) : Int).toNat 0) 0 l0_0 l0_1 l0_2) else (none)) else (none)) = some (r1, r2, r3) := H
    have A4 := Aside0.mk A40
    clear A40
    by_cases c5 : 0 ≤ (l0_0.length : Int)
    · rw [if_pos c5] at H
      have c5b0 := eq_true c5
      have c5b1 : decide (0 ≤ (l0_0.length : Int)) = true := decide_eq_true c5
      clear c5
      by_cases c6 : ((l0_0.length : Int) : Int).toNat ≤ 35184372088832
      · rw [if_pos c6] at H
        have c6b0 := eq_true c6
        have c6b1 : decide (((l0_0.length : Int) : Int).toNat ≤ 35184372088832) = true := decide_eq_true c6
        clear c6
        obtain ⟨y131, hy131⟩ : ∃ y_ : List Int, y_ = (List.replicate ((l0_0.length : Int) : Int).toNat 0) := ⟨_, rfl⟩
        replace H : (wishbookref10_Missing.l0 k t125 y131 (List.replicate ((l0_0.length : Int) : Int).toNat 0) 0 l0_0 l0_1 l0_2) = some (r1, r2, r3) := by first | (rw [hy131]; with_reducible exact H) | (have H2_ := (Option.bind_some _ _).symm.trans H; rw [hy131]; with_reducible exact H2_) | (have H2_ := (Option.bind_some _ _).symm.trans H; with_reducible exact H2_) | with_reducible exact H | (rw [hy131]; exact H) | exact H
        have Ny131 := Aside0.mk hy131
        clear hy131
        obtain ⟨y134, hy134⟩ : ∃ y_ : List Int, y_ = (List.replicate ((l0_0.length : Int) : Int).toNat 0) := ⟨_, rfl⟩
        replace H : (wishbookref10_Missing.l0 k t125 y131 y134 0 l0_0 l0_1 l0_2) = some (r1, r2, r3) := by first | (rw [hy134]; with_reducible exact H) | (have H2_ := (Option.bind_some _ _).symm.trans H; rw [hy134]; with_reducible exact H2_) | (have H2_ := (Option.bind_some _ _).symm.trans H; with_reducible exact H2_) | with_reducible exact H | (rw [hy134]; exact H) | exact H
        have Ny134 := Aside0.mk hy134
        clear hy134
        have H' := Aside0.mk H
        clear H
        go_enter Tryd.func15, Tryd.ntmps15
        try go_wp2_with (first | ((with_reducible refine gate_dst (N := 1) rfl ?_); refine box_event ?hg (N := 1) ?hd (cs := #[.slice A0_0 l0_0.length c0_0, .slice A0_1 l0_1.length c0_1, .slice A0_2 l0_2.length c0_2]) (t := 26) ?hr ?_; (case hd => rfl); (case hg => rfl); (case hr => first | (go_simp; done) | (go_simp; rfl)); intro gb123 hg w7 hbox hb; have n0_ := Aside0.mk (below_step (by repeat (first | (with_reducible first | exact HB.out | apply below_alloc | apply pw_below_drewN | apply below_drew1) | exact HB.out)) hb); have n1_ := Aside0.mk (hbox); have n2_ := Aside0.mk ((by rw [hg]; exact (below_size (by repeat (first | (with_reducible first | exact HB.out | apply below_alloc | apply pw_below_drewN | apply below_drew1) | exact HB.out))) : w.heap.size ≤ gb123)); have n3_ := Aside0.mk ((by rw [hg]; exact (below_size (by repeat (first | (with_reducible first | exact HB.out | apply below_alloc | apply pw_below_drewN | apply below_drew1) | exact HB.out))) : w.heap.size ≤ gb123)); clear HB; have HB := n0_; have BK123 := n1_; have GW123 := n2_; have GE123 := n3_; clear n0_ n1_ n2_ n3_; clear hb hbox hg; have hcz8_0 : w7.cell? ⟨gb123, 0, none⟩ = some (.slice A0_0 l0_0.length c0_0) := (blk_cell BK123.out 0).trans rfl; have hcz8_1 : w7.cell? ⟨gb123, 1, none⟩ = some (.slice A0_1 l0_1.length c0_1) := (blk_cell BK123.out 1).trans rfl; have hcz8_2 : w7.cell? ⟨gb123, 2, none⟩ = some (.slice A0_2 l0_2.length c0_2) := (blk_cell BK123.out 2).trans rfl; have hfz8_0 := blk_frozen BK123.out 0; have hfz8_1 := blk_frozen BK123.out 1; have hfz8_2 := blk_frozen BK123.out 2) | ((with_reducible refine gate_callee (f := 47) rfl ?_); refine goesL_ (some 12) rfl rfl Tryd.func47 (by kernel_rfl) rfl #[.agg #[.slice A0_0 l0_0.length c0_0, .slice A0_1 l0_1.length c0_1, .slice A0_2 l0_2.length c0_2]] rfl (by (try simp only [List.map_toArray, List.map_cons, List.map_nil]); first | done | rfl | (simp only [List.length_drop, List.length_take]; rfl)) ?_; (with_reducible refine (wishbookref10_Check.calls _ _ l0_0 _ _ l0_1 _ _ l0_2 t124 _ ?side1 ?side2 ?side3 ?side4 ?side5 ?side6 A2.out).mono ?_); (case side1 => repeat (first | exact (Kd.C_below HR0_0.out HB.out) | (with_reducible refine Kd.C_alloc ?_ _) | (with_reducible refine Kd.C_drewN ?_ _) | (with_reducible refine Kd.C_drew ?_))); (case side2 => exact HC0_0.out); (case side3 => repeat (first | exact (Kd.C_below HR0_1.out HB.out) | (with_reducible refine Kd.C_alloc ?_ _) | (with_reducible refine Kd.C_drewN ?_ _) | (with_reducible refine Kd.C_drew ?_))); (case side4 => exact HC0_1.out); (case side5 => repeat (first | exact (Kd.C_below HR0_2.out HB.out) | (with_reducible refine Kd.C_alloc ?_ _) | (with_reducible refine Kd.C_drewN ?_ _) | (with_reducible refine Kd.C_drew ?_))); (case side6 => exact HC0_2.out); rintro e w9 ⟨rfl, hb⟩; refine ⟨_, rfl, ?_⟩; have n0_ := Aside0.mk (blk_below (g := gb123) (o := .cells #[.slice A0_0 l0_0.length c0_0, .slice A0_1 l0_1.length c0_1, .slice A0_2 l0_2.length c0_2] 26 (0, 0)) (by (with_reducible repeat (first | refine blk_drewN ?_ _ | refine blk_drew ?_ | refine blk_alloc ?_ _)); exact BK123.out) hb); have n1_ := Aside0.mk (below_step (by repeat (first | (with_reducible first | exact HB.out | apply below_alloc | apply pw_below_drewN | apply below_drew1 | refine below_set ?_ GE123.out) | exact HB.out)) hb); clear BK123; clear HB; have BK123 := n0_; have HB := n1_; clear n0_ n1_; (try clear hb); (try clear hb2); (try clear hk); (try clear hi); have hcz10_0 : w9.cell? ⟨gb123, 0, none⟩ = some (.slice A0_0 l0_0.length c0_0) := (blk_cell BK123.out 0).trans rfl; have hcz10_1 : w9.cell? ⟨gb123, 1, none⟩ = some (.slice A0_1 l0_1.length c0_1) := (blk_cell BK123.out 1).trans rfl; have hcz10_2 : w9.cell? ⟨gb123, 2, none⟩ = some (.slice A0_2 l0_2.length c0_2) := (blk_cell BK123.out 2).trans rfl; have hfz10_0 := blk_frozen BK123.out 0; have hfz10_1 := blk_frozen BK123.out 1; have hfz10_2 := blk_frozen BK123.out 2) | ((with_reducible refine gate_callee (f := 48) rfl ?_); refine goesL_ (some 18) rfl rfl Tryd.func48 (by kernel_rfl) rfl #[.agg #[.slice A0_0 l0_0.length c0_0, .slice A0_1 l0_1.length c0_1, .slice A0_2 l0_2.length c0_2]] rfl (by (try simp only [List.map_toArray, List.map_cons, List.map_nil]); first | done | rfl | (simp only [List.length_drop, List.length_take]; rfl)) ?_; (with_reducible refine (wishbookref10_served.calls _ _ l0_0 _ _ l0_1 _ _ l0_2 t125 t128 _ ?side1 ?side2 ?side3 ?side4 ?side5 ?side6 A4.out).mono ?_); (case side1 => repeat (first | exact (Kd.C_below HR0_0.out HB.out) | (with_reducible refine Kd.C_alloc ?_ _) | (with_reducible refine Kd.C_drewN ?_ _) | (with_reducible refine Kd.C_drew ?_))); (case side2 => exact HC0_0.out); (case side3 => repeat (first | exact (Kd.C_below HR0_1.out HB.out) | (with_reducible refine Kd.C_alloc ?_ _) | (with_reducible refine Kd.C_drewN ?_ _) | (with_reducible refine Kd.C_drew ?_))); (case side4 => exact HC0_1.out); (case side5 => repeat (first | exact (Kd.C_below HR0_2.out HB.out) | (with_reducible refine Kd.C_alloc ?_ _) | (with_reducible refine Kd.C_drewN ?_ _) | (with_reducible refine Kd.C_drew ?_))); (case side6 => exact HC0_2.out); rintro e w11 ⟨v126, v129, rfl, ho0, ho1, hb⟩; refine ⟨_, rfl, ?_⟩; have n0_ := Aside0.mk (Kd.R_lower ho0 (below_size (by repeat (first | (with_reducible first | exact HB.out | apply below_alloc | apply pw_below_drewN | apply below_drew1 | refine below_set ?_ GE123.out) | exact HB.out)))); have n1_ := Aside0.mk (Kd.R_lower ho1 (below_size (by repeat (first | (with_reducible first | exact HB.out | apply below_alloc | apply pw_below_drewN | apply below_drew1 | refine below_set ?_ GE123.out) | exact HB.out)))); have n2_ := Aside0.mk (blk_below (g := gb123) (o := .cells #[.slice A0_0 l0_0.length c0_0, .slice A0_1 l0_1.length c0_1, .slice A0_2 l0_2.length c0_2] 26 (0, 0)) (by (with_reducible repeat (first | refine blk_drewN ?_ _ | refine blk_drew ?_ | refine blk_alloc ?_ _)); exact BK123.out) hb); have n3_ := Aside0.mk (below_step (by repeat (first | (with_reducible first | exact HB.out | apply below_alloc | apply pw_below_drewN | apply below_drew1 | refine below_set ?_ GE123.out) | exact HB.out)) hb); clear BK123; clear HB; have HO127 := n0_; have HO130 := n1_; have BK123 := n2_; have HB := n3_; clear n0_ n1_ n2_ n3_; (try clear hb); (try clear hb2); (try clear hk); (try clear hi); (try clear ho0); (try clear ho1)))
        have n0_ := Aside0.mk (Kd.R_drew HO127.out)
        have n1_ := Aside0.mk (Kd.R_drew HO130.out)
        have n2_ := Aside0.mk (blk_drew BK123.out)
        have n3_ := Aside0.mk (below_drew1 HB.out)
        clear HO127
        clear HO130
        clear BK123
        clear HB
        have HO127 := n0_
        have HO130 := n1_
        have BK123 := n2_
        have HB := n3_
        clear n0_ n1_ n2_ n3_
        refine start_ (n := 10) (S := fun w' => w'.cell? ⟨gb123, 0, none⟩ = some (.slice A0_0 l0_0.length c0_0) ∧ w'.cell? ⟨gb123, 1, none⟩ = some (.slice A0_1 l0_1.length c0_1) ∧ w'.cell? ⟨gb123, 2, none⟩ = some (.slice A0_2 l0_2.length c0_2)) (ds := []) #[false, false, false, false, false, false, false, false, false, false] (by kernel_rfl) rfl rfl ⟨(blk_cell BK123.out 0).trans rfl, (blk_cell BK123.out 1).trans rfl, (blk_cell BK123.out 2).trans rfl⟩ (fun hHeld => ?_); refine with_tabW wishbookref10_Missing.tab5 wishbookref10_Missing.bits5 (fun HT_ HW_ => ?_)
        generalize w11.drew = w12 at HO127 HO130 BK123 HB hHeld ⊢
        refine pure_ (i := 0) (N := some 21) (v := ?_) (a' := ?_) #[true, false, false, false, false, false, false, false, false, false] rfl rfl (any_of HT_.out (by kernel_rfl)) (fun _ _ _ h => h) (Or.inl ⟨by rfl, ?_⟩) ?_ ?_
        rotate_left
        · intro w'
          go_simp
          with_reducible rfl
        rotate_left
        · simp only [Act.put, List.setIfInBounds_toArray, List.set_cons_zero, List.set_cons_succ, i64_w, i32_w]
          rfl
        refine pure_ (i := 4) (N := some 25) (v := ?_) (a' := ?_) #[true, false, false, false, true, false, false, false, false, false] rfl rfl (any_of HT_.out (by kernel_rfl)) (fun _ _ _ h => h) (Or.inl ⟨by rfl, ?_⟩) ?_ ?_
        rotate_left
        · intro w'
          go_simp
          with_reducible rfl
        rotate_left
        · simp only [Act.put, List.setIfInBounds_toArray, List.set_cons_zero, List.set_cons_succ, i64_w, i32_w]
          rfl
        refine take_ (i := 1) (N := some 22) (v := ?_) (a' := ?_) #[true, true, false, false, true, false, false, false, false, false] rfl rfl (take_ofW HT_.out HW_.out (by kernel_rfl)) (fun _ _ _ h => h) (Or.inl ⟨by rfl, ?_⟩) hHeld ?_ ?_
        rotate_left
        · rintro w' ⟨s0, s1, s2⟩
          go_simp
          with_reducible rfl
        rotate_left
        · simp only [Act.put, List.setIfInBounds_toArray, List.set_cons_zero, List.set_cons_succ, i64_w, i32_w]
          rfl
        refine pure_ (i := 2) (N := some 23) (v := ?_) (a' := ?_) #[true, true, true, false, true, false, false, false, false, false] rfl rfl (any_of HT_.out (by kernel_rfl)) (fun _ _ _ h => h) (Or.inl ⟨by rfl, ?_⟩) ?_ ?_
        rotate_left
        · intro w'
          go_simp
          with_reducible rfl
        rotate_left
        · simp only [Act.put, List.setIfInBounds_toArray, List.set_cons_zero, List.set_cons_succ, i64_w, i32_w]
          rfl
        refine take_ (i := 5) (N := some 26) (v := ?_) (a' := ?_) #[true, true, true, false, true, true, false, false, false, false] rfl rfl (take_ofW HT_.out HW_.out (by kernel_rfl)) (fun _ _ _ h => h) (Or.inl ⟨by rfl, ?_⟩) hHeld ?_ ?_
        rotate_left
        · rintro w' ⟨s0, s1, s2⟩
          go_simp
          with_reducible rfl
        rotate_left
        · simp only [Act.put, List.setIfInBounds_toArray, List.set_cons_zero, List.set_cons_succ, i64_w, i32_w]
          rfl
        refine pure_ (i := 6) (N := some 27) (v := ?_) (a' := ?_) #[true, true, true, false, true, true, true, false, false, false] rfl rfl (any_of HT_.out (by kernel_rfl)) (fun _ _ _ h => h) (Or.inl ⟨by rfl, ?_⟩) ?_ ?_
        rotate_left
        · intro w'
          go_simp
          with_reducible rfl
        rotate_left
        · simp only [Act.put, List.setIfInBounds_toArray, List.set_cons_zero, List.set_cons_succ, i64_w, i32_w]
          rfl
        refine join_ (σ := Value × Value) 1 #[true, true, true, true, true, true, true, true, true, false] (fun s_ => [(24, s_.1), (28, s_.2), (8, s_.1)]) (fun s_ w' => (w'.cell? ⟨gb123, 0, none⟩ = some (.slice A0_0 l0_0.length c0_0) ∧ w'.cell? ⟨gb123, 1, none⟩ = some (.slice A0_1 l0_1.length c0_1) ∧ w'.cell? ⟨gb123, 2, none⟩ = some (.slice A0_2 l0_2.length c0_2)) ∧ (Kd.R k49 49 w' w.heap.size (fun _ => True) v126 t125) ∧ (Kd.R (Kd.int .i64) 3 w' w.heap.size (fun k_ => some k_ ≠ (s_.1 : Value).ownBlock ∧ some k_ ≠ (s_.2 : Value).ownBlock) v129 t128) ∧ (Kd.R (Kd.int .i64) 3 w' w.heap.size (fun k_ => some k_ ≠ (v129 : Value).ownBlock ∧ some k_ ≠ (s_.2 : Value).ownBlock) s_.1 y131) ∧ (Kd.R (Kd.int .i64) 3 w' w.heap.size (fun k_ => some k_ ≠ (v129 : Value).ownBlock ∧ some k_ ≠ (s_.1 : Value).ownBlock) s_.2 y134) ∧ (w'.heap[gb123]? = some (.cells #[.slice A0_0 l0_0.length c0_0, .slice A0_1 l0_1.length c0_1, .slice A0_2 l0_2.length c0_2] 26 (0, 0))) ∧ (Below w.heap.size w w')) ?_ ?_
        rotate_left
        · intro hCont
          refine two_ (i := 3) (j := 7) (Ni := some 24) (Nj := some 28) #[true, true, true, true, true, true, true, false, false, false] #[true, true, true, false, true, true, true, true, false, false] rfl rfl rfl rfl (two_of HT_.out (by kernel_rfl)) (by decide) (by decide) (fun K hK => ?_) (fun K hK => ?_)
          · skip
            refine Kd.R_make_step (Kd.int .i64) _ 3 (by rfl) (N := 24) rfl 22 _ _ rfl (l0_0.length : Int) rfl rfl Tryd.underlying22 (.int .i64 0) 8 info3 rfl (by decide) (by omega) 0 (ok := fun _ => True) (okp := fun _ => True) rfl (fun _ hk => hk) trivial (of_decide_eq_true (by first | (with_reducible assumption) | assumption)) (Nat.le_trans (Nat.mul_le_mul_right _ (of_decide_eq_true (by first | (with_reducible assumption) | assumption) : (l0_0.length : Int).toNat ≤ 35184372088832)) (by omega)) (Below.refl _ _) (Nat.le_refl _) ?_
            intro v132 w13 ho14 hb hg_ hnew_
            clear hg_ hnew_
            (first | rw [← Ny131.out] at ho14 | (simp only [Int.reduceToNat] at ho14; rw [← Ny131.out] at ho14))
            have n0_ := Aside0.mk (Kd.R_below (by (with_reducible repeat (first | apply Kd.R_alloc | apply Kd.R_drewN | apply Kd.R_drew)); exact HO127.out) hb)
            have n1_ := Aside0.mk (Kd.R_elder' (by (with_reducible repeat (first | apply Kd.R_alloc | apply Kd.R_drewN | apply Kd.R_drew)); exact HO130.out) (Kd.R_base ho14) hb)
            have n2_ := Aside0.mk (Kd.R_lower (Kd.R_new' ho14 (Kd.R_lt (by (with_reducible repeat (first | apply Kd.R_alloc | apply Kd.R_drewN | apply Kd.R_drew)); exact HO130.out))) (below_size (by repeat (first | (with_reducible first | exact HB.out | apply below_alloc | apply pw_below_drewN | apply below_drew1 | refine below_set ?_ GE123.out) | exact HB.out))))
            have n3_ := Aside0.mk (blk_below (g := gb123) (o := .cells #[.slice A0_0 l0_0.length c0_0, .slice A0_1 l0_1.length c0_1, .slice A0_2 l0_2.length c0_2] 26 (0, 0)) (by (with_reducible repeat (first | refine blk_drewN ?_ _ | refine blk_drew ?_ | refine blk_alloc ?_ _)); exact BK123.out) hb)
            have n4_ := Aside0.mk (below_step (by repeat (first | (with_reducible first | exact HB.out | apply below_alloc | apply pw_below_drewN | apply below_drew1 | refine below_set ?_ GE123.out) | exact HB.out)) hb)
            clear HO127
            clear HO130
            clear BK123
            clear HB
            have HO127 := n0_
            have HO130 := n1_
            have HO133 := n2_
            have BK123 := n3_
            have HB := n4_
            clear n0_ n1_ n2_ n3_ n4_
            clear hb ho14
            refine hK.out _ _ ⟨(blk_cell BK123.out 0).trans rfl, (blk_cell BK123.out 1).trans rfl, (blk_cell BK123.out 2).trans rfl⟩ (fun hHeld => ?_)
            clear hK K
            refine norm_ (a' := ?_) ?_ ?_
            rotate_left
            · show Act.put _ (some 24) _ = _
              simp only [Act.put, List.setIfInBounds_toArray, List.set_cons_zero, List.set_cons_succ, i64_w, i32_w]
              rfl
            refine pure_ (i := 8) (N := some 8) (v := ?_) (a' := ?_) #[true, true, true, true, true, true, true, false, true, false] rfl rfl (any_of HT_.out (by kernel_rfl)) (fun _ _ _ h => h) (Or.inl ⟨by rfl, ?_⟩) ?_ ?_
            rotate_left
            · intro w'
              go_simp
              with_reducible rfl
            rotate_left
            · simp only [Act.put, List.setIfInBounds_toArray, List.set_cons_zero, List.set_cons_succ, i64_w, i32_w]
              rfl
            refine one_ (i := 7) (N := some 28) #[true, true, true, true, true, true, true, true, true, false] rfl rfl (one_of HT_.out (by kernel_rfl)) (by decide) (fun K hK => ?_)
            refine Kd.R_make_step (Kd.int .i64) _ 3 (by rfl) (N := 28) rfl 22 _ _ rfl (l0_0.length : Int) rfl rfl Tryd.underlying22 (.int .i64 0) 8 info3 rfl (by decide) (by omega) 0 (ok := fun _ => True) (okp := fun _ => True) rfl (fun _ hk => hk) trivial (of_decide_eq_true (by first | (with_reducible assumption) | assumption)) (Nat.le_trans (Nat.mul_le_mul_right _ (of_decide_eq_true (by first | (with_reducible assumption) | assumption) : (l0_0.length : Int).toNat ≤ 35184372088832)) (by omega)) (Below.refl _ _) (Nat.le_refl _) ?_
            intro v135 w15 ho16 hb hg_ hnew_
            clear hg_ hnew_
            (first | rw [← Ny134.out] at ho16 | (simp only [Int.reduceToNat] at ho16; rw [← Ny134.out] at ho16))
            have n0_ := Aside0.mk (Kd.R_below (by (with_reducible repeat (first | apply Kd.R_alloc | apply Kd.R_drewN | apply Kd.R_drew)); exact HO127.out) hb)
            have n1_ := Aside0.mk (Kd.R_elder' (by (with_reducible repeat (first | apply Kd.R_alloc | apply Kd.R_drewN | apply Kd.R_drew)); exact HO130.out) (Kd.R_base ho16) hb)
            have n2_ := Aside0.mk (Kd.R_elder' (by (with_reducible repeat (first | apply Kd.R_alloc | apply Kd.R_drewN | apply Kd.R_drew)); exact HO133.out) (Kd.R_base ho16) hb)
            have n3_ := Aside0.mk (Kd.R_lower (Kd.R_new' (Kd.R_new' ho16 (Kd.R_lt (by (with_reducible repeat (first | apply Kd.R_alloc | apply Kd.R_drewN | apply Kd.R_drew)); exact HO130.out))) (Kd.R_lt (by (with_reducible repeat (first | apply Kd.R_alloc | apply Kd.R_drewN | apply Kd.R_drew)); exact HO133.out))) (below_size (by repeat (first | (with_reducible first | exact HB.out | apply below_alloc | apply pw_below_drewN | apply below_drew1 | refine below_set ?_ GE123.out) | exact HB.out))))
            have n4_ := Aside0.mk (blk_below (g := gb123) (o := .cells #[.slice A0_0 l0_0.length c0_0, .slice A0_1 l0_1.length c0_1, .slice A0_2 l0_2.length c0_2] 26 (0, 0)) (by (with_reducible repeat (first | refine blk_drewN ?_ _ | refine blk_drew ?_ | refine blk_alloc ?_ _)); exact BK123.out) hb)
            have n5_ := Aside0.mk (below_step (by repeat (first | (with_reducible first | exact HB.out | apply below_alloc | apply pw_below_drewN | apply below_drew1 | refine below_set ?_ GE123.out) | exact HB.out)) hb)
            clear HO127
            clear HO130
            clear HO133
            clear BK123
            clear HB
            have HO127 := n0_
            have HO130 := n1_
            have HO133 := n2_
            have HO136 := n3_
            have BK123 := n4_
            have HB := n5_
            clear n0_ n1_ n2_ n3_ n4_ n5_
            clear hb ho16
            refine hK.out _ _ ⟨(blk_cell BK123.out 0).trans rfl, (blk_cell BK123.out 1).trans rfl, (blk_cell BK123.out 2).trans rfl⟩ (fun hHeld => ?_)
            clear hK K
            refine norm_ (a' := ?_) ?_ ?_
            rotate_left
            · show Act.put _ (some 28) _ = _
              simp only [Act.put, List.setIfInBounds_toArray, List.set_cons_zero, List.set_cons_succ, i64_w, i32_w]
              rfl
            exact norm_ (by simp only [putAll, Act.put, List.setIfInBounds_toArray, List.set_cons_zero, List.set_cons_succ]) (hCont (v132, v135) _ ⟨hHeld, (by (with_reducible repeat (first | apply Kd.R_alloc | apply Kd.R_drewN | apply Kd.R_drew)); exact HO127.out), (by (with_reducible repeat (first | apply Kd.R_alloc | apply Kd.R_drewN | apply Kd.R_drew)); exact Kd.R_mono HO130.out (fun _ hk => ⟨hk.1.2, hk.2⟩)), (by (with_reducible repeat (first | apply Kd.R_alloc | apply Kd.R_drewN | apply Kd.R_drew)); exact Kd.R_mono HO133.out (fun _ hk => ⟨hk.1.2, hk.2⟩)), (by (with_reducible repeat (first | apply Kd.R_alloc | apply Kd.R_drewN | apply Kd.R_drew)); exact Kd.R_mono HO136.out (fun _ hk => ⟨hk.1.2, hk.2⟩)), (by (with_reducible repeat (first | refine blk_drewN ?_ _ | refine blk_drew ?_ | refine blk_alloc ?_ _)); exact BK123.out), (by repeat (first | (with_reducible first | exact HB.out | apply below_alloc | apply pw_below_drewN | apply below_drew1 | refine below_set ?_ GE123.out) | exact HB.out))⟩)
          · skip
            refine Kd.R_make_step (Kd.int .i64) _ 3 (by rfl) (N := 28) rfl 22 _ _ rfl (l0_0.length : Int) rfl rfl Tryd.underlying22 (.int .i64 0) 8 info3 rfl (by decide) (by omega) 0 (ok := fun _ => True) (okp := fun _ => True) rfl (fun _ hk => hk) trivial (of_decide_eq_true (by first | (with_reducible assumption) | assumption)) (Nat.le_trans (Nat.mul_le_mul_right _ (of_decide_eq_true (by first | (with_reducible assumption) | assumption) : (l0_0.length : Int).toNat ≤ 35184372088832)) (by omega)) (Below.refl _ _) (Nat.le_refl _) ?_
            intro v135 w13 ho14 hb hg_ hnew_
            clear hg_ hnew_
            (first | rw [← Ny134.out] at ho14 | (simp only [Int.reduceToNat] at ho14; rw [← Ny134.out] at ho14))
            have n0_ := Aside0.mk (Kd.R_below (by (with_reducible repeat (first | apply Kd.R_alloc | apply Kd.R_drewN | apply Kd.R_drew)); exact HO127.out) hb)
            have n1_ := Aside0.mk (Kd.R_elder' (by (with_reducible repeat (first | apply Kd.R_alloc | apply Kd.R_drewN | apply Kd.R_drew)); exact HO130.out) (Kd.R_base ho14) hb)
            have n2_ := Aside0.mk (Kd.R_lower (Kd.R_new' ho14 (Kd.R_lt (by (with_reducible repeat (first | apply Kd.R_alloc | apply Kd.R_drewN | apply Kd.R_drew)); exact HO130.out))) (below_size (by repeat (first | (with_reducible first | exact HB.out | apply below_alloc | apply pw_below_drewN | apply below_drew1 | refine below_set ?_ GE123.out) | exact HB.out))))
            have n3_ := Aside0.mk (blk_below (g := gb123) (o := .cells #[.slice A0_0 l0_0.length c0_0, .slice A0_1 l0_1.length c0_1, .slice A0_2 l0_2.length c0_2] 26 (0, 0)) (by (with_reducible repeat (first | refine blk_drewN ?_ _ | refine blk_drew ?_ | refine blk_alloc ?_ _)); exact BK123.out) hb)
            have n4_ := Aside0.mk (below_step (by repeat (first | (with_reducible first | exact HB.out | apply below_alloc | apply pw_below_drewN | apply below_drew1 | refine below_set ?_ GE123.out) | exact HB.out)) hb)
            clear HO127
            clear HO130
            clear BK123
            clear HB
            have HO127 := n0_
            have HO130 := n1_
            have HO136 := n2_
            have BK123 := n3_
            have HB := n4_
            clear n0_ n1_ n2_ n3_ n4_
            clear hb ho14
            refine hK.out _ _ ⟨(blk_cell BK123.out 0).trans rfl, (blk_cell BK123.out 1).trans rfl, (blk_cell BK123.out 2).trans rfl⟩ (fun hHeld => ?_)
            clear hK K
            refine norm_ (a' := ?_) ?_ ?_
            rotate_left
            · show Act.put _ (some 28) _ = _
              simp only [Act.put, List.setIfInBounds_toArray, List.set_cons_zero, List.set_cons_succ, i64_w, i32_w]
              rfl
            refine one_ (i := 3) (N := some 24) #[true, true, true, true, true, true, true, true, false, false] rfl rfl (one_of HT_.out (by kernel_rfl)) (by decide) (fun K hK => ?_)
            refine Kd.R_make_step (Kd.int .i64) _ 3 (by rfl) (N := 24) rfl 22 _ _ rfl (l0_0.length : Int) rfl rfl Tryd.underlying22 (.int .i64 0) 8 info3 rfl (by decide) (by omega) 0 (ok := fun _ => True) (okp := fun _ => True) rfl (fun _ hk => hk) trivial (of_decide_eq_true (by first | (with_reducible assumption) | assumption)) (Nat.le_trans (Nat.mul_le_mul_right _ (of_decide_eq_true (by first | (with_reducible assumption) | assumption) : (l0_0.length : Int).toNat ≤ 35184372088832)) (by omega)) (Below.refl _ _) (Nat.le_refl _) ?_
            intro v132 w15 ho16 hb hg_ hnew_
            clear hg_ hnew_
            (first | rw [← Ny131.out] at ho16 | (simp only [Int.reduceToNat] at ho16; rw [← Ny131.out] at ho16))
            have n0_ := Aside0.mk (Kd.R_below (by (with_reducible repeat (first | apply Kd.R_alloc | apply Kd.R_drewN | apply Kd.R_drew)); exact HO127.out) hb)
            have n1_ := Aside0.mk (Kd.R_elder' (by (with_reducible repeat (first | apply Kd.R_alloc | apply Kd.R_drewN | apply Kd.R_drew)); exact HO130.out) (Kd.R_base ho16) hb)
            have n2_ := Aside0.mk (Kd.R_elder' (by (with_reducible repeat (first | apply Kd.R_alloc | apply Kd.R_drewN | apply Kd.R_drew)); exact HO136.out) (Kd.R_base ho16) hb)
            have n3_ := Aside0.mk (Kd.R_lower (Kd.R_new' (Kd.R_new' ho16 (Kd.R_lt (by (with_reducible repeat (first | apply Kd.R_alloc | apply Kd.R_drewN | apply Kd.R_drew)); exact HO130.out))) (Kd.R_lt (by (with_reducible repeat (first | apply Kd.R_alloc | apply Kd.R_drewN | apply Kd.R_drew)); exact HO136.out))) (below_size (by repeat (first | (with_reducible first | exact HB.out | apply below_alloc | apply pw_below_drewN | apply below_drew1 | refine below_set ?_ GE123.out) | exact HB.out))))
            have n4_ := Aside0.mk (blk_below (g := gb123) (o := .cells #[.slice A0_0 l0_0.length c0_0, .slice A0_1 l0_1.length c0_1, .slice A0_2 l0_2.length c0_2] 26 (0, 0)) (by (with_reducible repeat (first | refine blk_drewN ?_ _ | refine blk_drew ?_ | refine blk_alloc ?_ _)); exact BK123.out) hb)
            have n5_ := Aside0.mk (below_step (by repeat (first | (with_reducible first | exact HB.out | apply below_alloc | apply pw_below_drewN | apply below_drew1 | refine below_set ?_ GE123.out) | exact HB.out)) hb)
            clear HO127
            clear HO130
            clear HO136
            clear BK123
            clear HB
            have HO127 := n0_
            have HO130 := n1_
            have HO136 := n2_
            have HO133 := n3_
            have BK123 := n4_
            have HB := n5_
            clear n0_ n1_ n2_ n3_ n4_ n5_
            clear hb ho16
            refine hK.out _ _ ⟨(blk_cell BK123.out 0).trans rfl, (blk_cell BK123.out 1).trans rfl, (blk_cell BK123.out 2).trans rfl⟩ (fun hHeld => ?_)
            clear hK K
            refine norm_ (a' := ?_) ?_ ?_
            rotate_left
            · show Act.put _ (some 24) _ = _
              simp only [Act.put, List.setIfInBounds_toArray, List.set_cons_zero, List.set_cons_succ, i64_w, i32_w]
              rfl
            refine pure_ (i := 8) (N := some 8) (v := ?_) (a' := ?_) #[true, true, true, true, true, true, true, true, true, false] rfl rfl (any_of HT_.out (by kernel_rfl)) (fun _ _ _ h => h) (Or.inl ⟨by rfl, ?_⟩) ?_ ?_
            rotate_left
            · intro w'
              go_simp
              with_reducible rfl
            rotate_left
            · simp only [Act.put, List.setIfInBounds_toArray, List.set_cons_zero, List.set_cons_succ, i64_w, i32_w]
              rfl
            exact norm_ (by simp only [putAll, Act.put, List.setIfInBounds_toArray, List.set_cons_zero, List.set_cons_succ]) (hCont (v132, v135) _ ⟨hHeld, (by (with_reducible repeat (first | apply Kd.R_alloc | apply Kd.R_drewN | apply Kd.R_drew)); exact HO127.out), (by (with_reducible repeat (first | apply Kd.R_alloc | apply Kd.R_drewN | apply Kd.R_drew)); exact Kd.R_mono HO130.out (fun _ hk => ⟨hk.2, hk.1.2⟩)), (by (with_reducible repeat (first | apply Kd.R_alloc | apply Kd.R_drewN | apply Kd.R_drew)); exact Kd.R_mono HO133.out (fun _ hk => ⟨hk.1.2, hk.2⟩)), (by (with_reducible repeat (first | apply Kd.R_alloc | apply Kd.R_drewN | apply Kd.R_drew)); exact Kd.R_mono HO136.out (fun _ hk => ⟨hk.1.2, hk.2⟩)), (by (with_reducible repeat (first | refine blk_drewN ?_ _ | refine blk_drew ?_ | refine blk_alloc ?_ _)); exact BK123.out), (by repeat (first | (with_reducible first | exact HB.out | apply below_alloc | apply pw_below_drewN | apply below_drew1 | refine below_set ?_ GE123.out) | exact HB.out))⟩)
        rintro ⟨v132, v135⟩ w17 ⟨hS_, h0_, h1_, h2_, h3_, h4_, h5_⟩
        have n0_ : Aside0 (Kd.R k49 49 w17 w.heap.size (fun _ => True) v126 t125) := ⟨h0_⟩
        have n1_ : Aside0 (Kd.R (Kd.int .i64) 3 w17 w.heap.size (fun k_ => some k_ ≠ (v132 : Value).ownBlock ∧ some k_ ≠ (v135 : Value).ownBlock) v129 t128) := ⟨h1_⟩
        have n2_ : Aside0 (Kd.R (Kd.int .i64) 3 w17 w.heap.size (fun k_ => some k_ ≠ (v129 : Value).ownBlock ∧ some k_ ≠ (v135 : Value).ownBlock) v132 y131) := ⟨h2_⟩
        have n3_ : Aside0 (Kd.R (Kd.int .i64) 3 w17 w.heap.size (fun k_ => some k_ ≠ (v129 : Value).ownBlock ∧ some k_ ≠ (v132 : Value).ownBlock) v135 y134) := ⟨h3_⟩
        have n4_ : Aside0 (w17.heap[gb123]? = some (.cells #[.slice A0_0 l0_0.length c0_0, .slice A0_1 l0_1.length c0_1, .slice A0_2 l0_2.length c0_2] 26 (0, 0))) := ⟨h4_⟩
        have n5_ : Aside0 (Below w.heap.size w w17) := ⟨h5_⟩
        clear HO127
        clear HO130
        clear BK123
        clear HB
        clear h0_ h1_ h2_ h3_ h4_ h5_
        have HO127 := n0_
        have HO130 := n1_
        have HO133 := n2_
        have HO136 := n3_
        have BK123 := n4_
        have HB := n5_
        clear n0_ n1_ n2_ n3_ n4_ n5_
        have hHeld : w17.cell? ⟨gb123, 0, none⟩ = some (.slice A0_0 l0_0.length c0_0) ∧ w17.cell? ⟨gb123, 1, none⟩ = some (.slice A0_1 l0_1.length c0_1) ∧ w17.cell? ⟨gb123, 2, none⟩ = some (.slice A0_2 l0_2.length c0_2) := hS_
        refine norm_ (a' := ?_) ?_ ?_
        rotate_left
        · simp only [putAll, Act.put, List.setIfInBounds_toArray, List.set_cons_zero, List.set_cons_succ]
          rfl
        refine pure_ (i := 9) (N := some 9) (v := ?_) (a' := ?_) #[true, true, true, true, true, true, true, true, true, true] rfl rfl (any_of HT_.out (by kernel_rfl)) (fun _ _ _ h => h) (Or.inl ⟨by rfl, ?_⟩) ?_ ?_
        rotate_left
        · intro w'
          go_simp
          with_reducible rfl
        rotate_left
        · simp only [Act.put, List.setIfInBounds_toArray, List.set_cons_zero, List.set_cons_succ, i64_w, i32_w]
          rfl
        refine done_ (done_of HT_.out (by kernel_rfl)) ?_
        try go_wp2
        go_loopg [10] k (fun kq v10 w' => ∃ (x8_1 : List Int) (x9_1 : List Int) (x10_1 : Int), v10 = .int .i64 x10_1 ∧ Aside0 (wishbookref10_Missing.l0 kq t125 x8_1 x9_1 x10_1 l0_0 l0_1 l0_2 = some (r1, r2, r3)) ∧ Aside0 (kq ≤ k) ∧ Aside0 (Kd.R k49 49 w' w.heap.size (fun _ => True) v126 t125) ∧ Aside0 (Kd.R (Kd.int .i64) 3 w' w.heap.size (fun k_ => some k_ ≠ (v135 : Value).ownBlock) v132 x8_1) ∧ Aside0 (Kd.R (Kd.int .i64) 3 w' w.heap.size (fun k_ => some k_ ≠ (v132 : Value).ownBlock) v135 x9_1) ∧ Aside0 (w'.heap[gb123]? = some (.cells #[(.slice A0_0 l0_0.length c0_0), (.slice A0_1 l0_1.length c0_1), (.slice A0_2 l0_2.length c0_2)] 26 (0, 0))) ∧ Aside0 (Below w.heap.size w w'))
        case atStart => exact ⟨(y131), (y134), (0), (by first | rfl | (simp; done) | (simp [*]; done)), H', ⟨Nat.le_refl _⟩, ⟨by (with_reducible repeat (first | apply Kd.R_alloc | apply Kd.R_drewN | apply Kd.R_drew)); exact HO127.out⟩, ⟨by (with_reducible repeat (first | apply Kd.R_alloc | apply Kd.R_drewN | apply Kd.R_drew)); exact Kd.R_mono HO133.out (fun _ hk => hk.2)⟩, ⟨by (with_reducible repeat (first | apply Kd.R_alloc | apply Kd.R_drewN | apply Kd.R_drew)); exact Kd.R_mono HO136.out (fun _ hk => hk.2)⟩, ⟨by (with_reducible repeat (first | refine blk_drewN ?_ _ | refine blk_drew ?_ | refine blk_alloc ?_ _)); exact BK123.out⟩, ⟨by repeat (first | (with_reducible first | exact HB.out | apply below_alloc | apply pw_below_drewN | apply below_drew1 | refine below_set ?_ GE123.out) | exact HB.out)⟩⟩
        case round =>
          clear H'
          try clear c1
          try clear p2
          try clear c3
          try clear c3b0
          try clear c3b1
          try clear c4
          try clear c5
          try clear c5b0
          try clear c5b1
          try clear c6
          try clear c6b0
          try clear c6b1
          try clear c15
          try clear hcz10_0
          try clear hcz10_1
          try clear hcz10_2
          try clear hcz8_0
          try clear hcz8_1
          try clear hcz8_2
          try clear hfz10_0
          try clear hfz10_1
          try clear hfz10_2
          try clear hfz8_0
          try clear hfz8_1
          try clear hfz8_2
          obtain ⟨x8_1, x9_1, x10_1, rfl, HA, HK1, HO_6, HO_8, HO_9, BK123, HB⟩ := hrel
          cases gk with
          | zero => exact absurd HA.out (by simp [wishbookref10_Missing.l0])
          | succ k1 =>
            have H := HA.out
            clear HA
            simp only [wishbookref10_Missing.l0] at H
            by_cases c18 : x10_1 < (t125.length : Int)
            · rw [if_pos c18] at H
              have c18b0 : decide (x10_1 < (t125.length : Int)) = true := decide_eq_true c18
              clear c18
              by_cases c19 : 0 ≤ x10_1
              · rw [if_pos c19] at H
                have c19b0 : decide (0 ≤ x10_1) = true := decide_eq_true c19
                clear c19
                by_cases c20 : x10_1 < (l0_1.length : Int)
                · rw [if_pos c20] at H
                  have c20b0 : decide (x10_1 < (l0_1.length : Int)) = true := decide_eq_true c20
                  clear c20
                  by_cases c21 : 0 ≤ ((rd_T47 l0_1 x10_1).f1)
                  · rw [if_pos c21] at H
                    have c21b0 : decide (0 ≤ ((rd_T47 l0_1 x10_1).f1)) = true := decide_eq_true c21
                    clear c21
                    by_cases c22 : ((rd_T47 l0_1 x10_1).f1) < (x8_1.length : Int)
                    · rw [if_pos c22] at H
                      have c22b0 : decide (((rd_T47 l0_1 x10_1).f1) < (x8_1.length : Int)) = true := decide_eq_true c22
                      clear c22
                      obtain ⟨y140, hy140⟩ : ∃ y_ : List Int, y_ = (x8_1.set (((rd_T47 l0_1 x10_1).f1) : Int).toNat (wrap64 ((rd x8_1 ((rd_T47 l0_1 x10_1).f1)) + ((rd_T49 t125 x10_1).f2)))) := ⟨_, rfl⟩
                      replace H : (if ((rd_T47 l0_1 x10_1).f1) < (x9_1.length : Int) then (wishbookref10_Missing.l0 k1 t125 y140 (x9_1.set (((rd_T47 l0_1 x10_1).f1) : Int).toNat (wrap64 ((rd x9_1 ((rd_T47 l0_1 x10_1).f1)) + ((rd_T49 t125 x10_1).f3)))) (wrap64 (x10_1 + 1)) l0_0 l0_1 l0_2) else (none)) = some (r1, r2, r3) := by first | (rw [hy140]; with_reducible exact H) | (have H2_ := (Option.bind_some _ _).symm.trans H; rw [hy140]; with_reducible exact H2_) | (have H2_ := (Option.bind_some _ _).symm.trans H; with_reducible exact H2_) | with_reducible exact H | (rw [hy140]; exact H) | exact H
                      have Ny140 := Aside0.mk hy140
                      clear hy140
                      by_cases c24 : ((rd_T47 l0_1 x10_1).f1) < (x9_1.length : Int)
                      · rw [if_pos c24] at H
                        have c24b0 : decide (((rd_T47 l0_1 x10_1).f1) < (x9_1.length : Int)) = true := decide_eq_true c24
                        clear c24
                        obtain ⟨y144, hy144⟩ : ∃ y_ : List Int, y_ = (x9_1.set (((rd_T47 l0_1 x10_1).f1) : Int).toNat (wrap64 ((rd x9_1 ((rd_T47 l0_1 x10_1).f1)) + ((rd_T49 t125 x10_1).f3)))) := ⟨_, rfl⟩
                        replace H : (wishbookref10_Missing.l0 k1 t125 y140 y144 (wrap64 (x10_1 + 1)) l0_0 l0_1 l0_2) = some (r1, r2, r3) := by first | (rw [hy144]; with_reducible exact H) | (have H2_ := (Option.bind_some _ _).symm.trans H; rw [hy144]; with_reducible exact H2_) | (have H2_ := (Option.bind_some _ _).symm.trans H; with_reducible exact H2_) | with_reducible exact H | (rw [hy144]; exact H) | exact H
                        have Ny144 := Aside0.mk hy144
                        clear hy144
                        have H' := Aside0.mk H
                        clear H
                        obtain ⟨Ao26, co26, eo26⟩ := Kd.R_slice HO_6.out
                        subst eo26
                        try go_wp2
                        have n0_ := Aside0.mk (Kd.R_drew HO_6.out)
                        have n1_ := Aside0.mk (Kd.R_drew HO_8.out)
                        have n2_ := Aside0.mk (Kd.R_drew HO_9.out)
                        have n3_ := Aside0.mk (blk_drew BK123.out)
                        have n4_ := Aside0.mk (below_drew1 HB.out)
                        clear HO_6
                        clear HO_8
                        clear HO_9
                        clear BK123
                        clear HB
                        have HO_6 := n0_
                        have HO_8 := n1_
                        have HO_9 := n2_
                        have BK123 := n3_
                        have HB := n4_
                        clear n0_ n1_ n2_ n3_ n4_
                        have p137 : 0 ≤ (x10_1 : Int) := of_decide_eq_true (by first | (with_reducible assumption) | assumption)
                        have q137 : x10_1 < (l0_1.length : Int) := of_decide_eq_true (by first | (with_reducible assumption) | assumption)
                        obtain ⟨ad137, e137, hx137_0, hx137_1, hx137_2, hx137_3, hx137_4⟩ := at_T47 HR0_1.out x10_1 p137 q137
                        have hw137_4 := hx137_4
                        have hw137_3 := hx137_3
                        have hw137_2 := hx137_2
                        have hw137_1 := hx137_1
                        have hw137_0 := hx137_0
                        cases e137
                        replace hx137_0 := (HB.out.cell (World.block_lt_of_cell? w _ hx137_0)).trans hx137_0
                        replace hx137_1 := (HB.out.cell (World.block_lt_of_cell? w _ hx137_1)).trans hx137_1
                        replace hx137_2 := (HB.out.cell (World.block_lt_of_cell? w _ hx137_2)).trans hx137_2
                        replace hx137_3 := (HB.out.cell (World.block_lt_of_cell? w _ hx137_3)).trans hx137_3
                        replace hx137_4 := (HB.out.cell (World.block_lt_of_cell? w _ hx137_4)).trans hx137_4
                        replace p137 := eq_true p137
                        replace q137 := eq_true q137
                        obtain ⟨Ao28, co28, eo28⟩ := Kd.R_slice HO_8.out
                        (first | subst eo28 | (injection eo28 with f1_ f2_ f3_; have f4_ := f1_.symm; have f5_ := f3_.symm; clear f1_ f2_ f3_; subst f4_; subst f5_))
                        have p138 : 0 ≤ (((rd_T47 l0_1 x10_1).f1) : Int) := of_decide_eq_true (by first | (with_reducible assumption) | assumption)
                        have q138 : ((rd_T47 l0_1 x10_1).f1) < (x8_1.length : Int) := of_decide_eq_true (by first | (with_reducible assumption) | assumption)
                        obtain ⟨ad138, e138, hx138_0⟩ := Kd.at_int (Kd.R_reads' HO_8.out).2.2 ((rd_T47 l0_1 x10_1).f1) p138 q138
                        cases e138
                        replace p138 := eq_true p138
                        replace q138 := eq_true q138
                        have p139 : 0 ≤ (x10_1 : Int) := of_decide_eq_true (by first | (with_reducible assumption) | assumption)
                        have q139 : x10_1 < (t125.length : Int) := of_decide_eq_true (by first | (with_reducible assumption) | assumption)
                        obtain ⟨ad139, e139, hx139_0, hx139_1, hx139_2, hx139_3⟩ := at_T49 (Kd.R_reads' HO_6.out).2.2 x10_1 p139 q139
                        cases e139
                        replace p139 := eq_true p139
                        replace q139 := eq_true q139
                        have p23 : 0 ≤ (((rd_T47 l0_1 x10_1).f1) : Int) := of_decide_eq_true (by first | (with_reducible assumption) | assumption)
                        have q23 : (((rd_T47 l0_1 x10_1).f1) : Int) < ((x8_1.length : Int) : Int) := of_decide_eq_true (by first | (with_reducible assumption) | assumption)
                        obtain ⟨go23, co23, eo23, gb23, gl23, cl23, HG23⟩ := Kd.R_form HO_8.out (by omega)
                        (first | cases eo23 | (injection eo23 with ea_ en_ ec_; (first | subst ea_ | (injection ea_ with ea_; subst ea_)); subst ec_; clear en_))
                        have GB23 := Aside0.mk gb23
                        have GG23 := Aside0.mk HG23
                        clear gb23 gl23 HG23
                        (first | simp only [add_plain] at hx138_0 | skip)
                        obtain ⟨hx23_0, hf23_0⟩ := Kd.R_celln 0 HO_8.out (((rd_T47 l0_1 x10_1).f1) : Int) p23 q23
                        replace p23 := eq_true p23
                        replace q23 := eq_true q23
                        have HP29 := Kd.R_putn HO_8.out (((rd_T47 l0_1 x10_1).f1) : Int) (wrap64 ((rd x8_1 ((rd_T47 l0_1 x10_1).f1)) + ((rd_T49 t125 x10_1).f2)))
                        rw [← Ny140.out] at HP29
                        have HQ29 := Aside0.mk HP29
                        clear HP29
                        refine start_ (n := 17) (S := fun w' => w'.cell? ⟨gb123, 0, none⟩ = some (.slice A0_0 l0_0.length c0_0) ∧ w'.cell? ⟨gb123, 1, none⟩ = some (.slice (some ad137) l0_1.length c0_1) ∧ w'.cell? ⟨gb123, 2, none⟩ = some (.slice A0_2 l0_2.length c0_2) ∧ w'.cell? (ad137.add ((x10_1).toNat * 5)) = some (.int .i64 ((rd_T47 l0_1 x10_1).f0)) ∧ w'.cell? ⟨(ad137.add ((x10_1).toNat * 5)).block, (ad137.add ((x10_1).toNat * 5)).off + 1, none⟩ = some (.int .i64 ((rd_T47 l0_1 x10_1).f1)) ∧ w'.cell? ⟨(ad137.add ((x10_1).toNat * 5)).block, (ad137.add ((x10_1).toNat * 5)).off + 2, none⟩ = some (.int .i64 ((rd_T47 l0_1 x10_1).f2)) ∧ w'.cell? ⟨(ad137.add ((x10_1).toNat * 5)).block, (ad137.add ((x10_1).toNat * 5)).off + 3, none⟩ = some (.int .i64 ((rd_T47 l0_1 x10_1).f3)) ∧ w'.cell? ⟨(ad137.add ((x10_1).toNat * 5)).block, (ad137.add ((x10_1).toNat * 5)).off + 4, none⟩ = some (.int .i64 ((rd_T47 l0_1 x10_1).f4)) ∧ w'.cell? ⟨go23, ((rd_T47 l0_1 x10_1).f1).toNat, none⟩ = some (.int .i64 (rd x8_1 ((rd_T47 l0_1 x10_1).f1))) ∧ w'.cell? (ad139.add ((x10_1).toNat * 4)) = some (.int .i64 ((rd_T49 t125 x10_1).f0)) ∧ w'.cell? ⟨(ad139.add ((x10_1).toNat * 4)).block, (ad139.add ((x10_1).toNat * 4)).off + 1, none⟩ = some (.int .i64 ((rd_T49 t125 x10_1).f1)) ∧ w'.cell? ⟨(ad139.add ((x10_1).toNat * 4)).block, (ad139.add ((x10_1).toNat * 4)).off + 2, none⟩ = some (.int .i64 ((rd_T49 t125 x10_1).f2)) ∧ w'.cell? ⟨(ad139.add ((x10_1).toNat * 4)).block, (ad139.add ((x10_1).toNat * 4)).off + 3, none⟩ = some (.int .i64 ((rd_T49 t125 x10_1).f3))) (ds := [16]) #[false, false, false, false, false, false, false, false, false, false, false, false, false, false, false, false, false] (by kernel_rfl) rfl rfl ⟨(blk_cell BK123.out 0).trans rfl, (blk_cell BK123.out 1).trans rfl, (blk_cell BK123.out 2).trans rfl, ((HB.out.cell (World.block_lt_of_cell? w _ hw137_0)).trans hw137_0), ((HB.out.cell (World.block_lt_of_cell? w _ hw137_1)).trans hw137_1), ((HB.out.cell (World.block_lt_of_cell? w _ hw137_2)).trans hw137_2), ((HB.out.cell (World.block_lt_of_cell? w _ hw137_3)).trans hw137_3), ((HB.out.cell (World.block_lt_of_cell? w _ hw137_4)).trans hw137_4), hx138_0, hx139_0, hx139_1, hx139_2, hx139_3⟩ (fun hHeld => ?_); refine with_tabW wishbookref10_Missing.tab9 wishbookref10_Missing.bits9 (fun HT_ HW_ => ?_)
                        generalize wr.drew = w27 at HO_6 HO_8 HO_9 BK123 HB GG23 HQ29 hf23_0 hx137_0 hx137_1 hx137_2 hx137_3 hx137_4 hx138_0 hx139_0 hx139_1 hx139_2 hx139_3 hx23_0 hHeld ⊢
                        refine pure_ (i := 0) (N := some 35) (v := ?_) (a' := ?_) #[true, false, false, false, false, false, false, false, false, false, false, false, false, false, false, false, false] rfl rfl (any_of HT_.out (by kernel_rfl)) (fun _ _ _ h => h) (Or.inl ⟨by rfl, ?_⟩) ?_ ?_
                        rotate_left
                        · intro w'
                          go_simp
                          with_reducible rfl
                        rotate_left
                        · simp only [Act.put, List.setIfInBounds_toArray, List.set_cons_zero, List.set_cons_succ, i64_w, i32_w]
                          rfl
                        refine pure_ (i := 1) (N := some 36) (v := ?_) (a' := ?_) #[true, true, false, false, false, false, false, false, false, false, false, false, false, false, false, false, false] rfl rfl (any_of HT_.out (by kernel_rfl)) (fun _ _ _ h => h) (Or.inl ⟨by rfl, ?_⟩) ?_ ?_
                        rotate_left
                        · intro w'
                          go_simp
                          with_reducible rfl
                        rotate_left
                        · simp only [Act.put, List.setIfInBounds_toArray, List.set_cons_zero, List.set_cons_succ, i64_w, i32_w]
                          rfl
                        refine pure_ (i := 3) (N := some 38) (v := ?_) (a' := ?_) #[true, true, false, true, false, false, false, false, false, false, false, false, false, false, false, false, false] rfl rfl (any_of HT_.out (by kernel_rfl)) (fun _ _ _ h => h) (Or.inl ⟨by rfl, ?_⟩) ?_ ?_
                        rotate_left
                        · intro w'
                          go_simp
                          with_reducible rfl
                        rotate_left
                        · simp only [Act.put, List.setIfInBounds_toArray, List.set_cons_zero, List.set_cons_succ, i64_w, i32_w]
                          rfl
                        refine pure_ (i := 9) (N := some 44) (v := ?_) (a' := ?_) #[true, true, false, true, false, false, false, false, false, true, false, false, false, false, false, false, false] rfl rfl (any_of HT_.out (by kernel_rfl)) (fun _ _ _ h => h) (Or.inl ⟨by rfl, ?_⟩) ?_ ?_
                        rotate_left
                        · intro w'
                          go_simp
                          with_reducible rfl
                        rotate_left
                        · simp only [Act.put, List.setIfInBounds_toArray, List.set_cons_zero, List.set_cons_succ, i64_w, i32_w]
                          rfl
                        refine pure_ (i := 10) (N := some 45) (v := ?_) (a' := ?_) #[true, true, false, true, false, false, false, false, false, true, true, false, false, false, false, false, false] rfl rfl (any_of HT_.out (by kernel_rfl)) (fun _ _ _ h => h) (Or.inl ⟨by rfl, ?_⟩) ?_ ?_
                        rotate_left
                        · intro w'
                          go_simp
                          with_reducible rfl
                        rotate_left
                        · simp only [Act.put, List.setIfInBounds_toArray, List.set_cons_zero, List.set_cons_succ, i64_w, i32_w]
                          rfl
                        refine pure_ (i := 11) (N := some 46) (v := ?_) (a' := ?_) #[true, true, false, true, false, false, false, false, false, true, true, true, false, false, false, false, false] rfl rfl (any_of HT_.out (by kernel_rfl)) (fun _ _ _ h => h) (Or.inl ⟨by rfl, ?_⟩) ?_ ?_
                        rotate_left
                        · intro w'
                          go_simp
                          with_reducible rfl
                        rotate_left
                        · simp only [Act.put, List.setIfInBounds_toArray, List.set_cons_zero, List.set_cons_succ, i64_w, i32_w]
                          rfl
                        refine pure_ (i := 12) (N := some 47) (v := ?_) (a' := ?_) #[true, true, false, true, false, false, false, false, false, true, true, true, true, false, false, false, false] rfl rfl (any_of HT_.out (by kernel_rfl)) (fun _ _ _ h => h) (Or.inl ⟨by rfl, ?_⟩) ?_ ?_
                        rotate_left
                        · intro w'
                          go_simp
                          with_reducible rfl
                        rotate_left
                        · simp only [Act.put, List.setIfInBounds_toArray, List.set_cons_zero, List.set_cons_succ, i64_w, i32_w]
                          rfl
                        refine take_ (i := 2) (N := some 37) (v := ?_) (a' := ?_) #[true, true, true, true, false, false, false, false, false, true, true, true, true, false, false, false, false] rfl rfl (take_ofW HT_.out HW_.out (by kernel_rfl)) (fun _ _ _ h => h) (Or.inl ⟨by rfl, ?_⟩) hHeld ?_ ?_
                        rotate_left
                        · rintro w' ⟨s0, s1, s2, s3, s4, s5, s6, s7, s8, s9, s10, s11, s12⟩
                          go_simp
                          with_reducible rfl
                        rotate_left
                        · simp only [Act.put, List.setIfInBounds_toArray, List.set_cons_zero, List.set_cons_succ, i64_w, i32_w]
                          rfl
                        refine pure_ (i := 4) (N := some 39) (v := ?_) (a' := ?_) #[true, true, true, true, true, false, false, false, false, true, true, true, true, false, false, false, false] rfl rfl (any_of HT_.out (by kernel_rfl)) (fun _ _ _ h => h) (Or.inl ⟨by rfl, ?_⟩) ?_ ?_
                        rotate_left
                        · intro w'
                          go_simp
                          with_reducible rfl
                        rotate_left
                        · simp only [Act.put, List.setIfInBounds_toArray, List.set_cons_zero, List.set_cons_succ, i64_w, i32_w]
                          rfl
                        refine pure_ (i := 5) (N := some 40) (v := ?_) (a' := ?_) #[true, true, true, true, true, true, false, false, false, true, true, true, true, false, false, false, false] rfl rfl (any_of HT_.out (by kernel_rfl)) (fun _ _ _ h => h) (Or.inl ⟨by rfl, ?_⟩) ?_ ?_
                        rotate_left
                        · intro w'
                          go_simp
                          with_reducible rfl
                        rotate_left
                        · simp only [Act.put, List.setIfInBounds_toArray, List.set_cons_zero, List.set_cons_succ, i64_w, i32_w]
                          rfl
                        refine take_ (i := 6) (N := some 41) (v := ?_) (a' := ?_) #[true, true, true, true, true, true, true, false, false, true, true, true, true, false, false, false, false] rfl rfl (take_ofW HT_.out HW_.out (by kernel_rfl)) (fun _ _ _ h => h) (Or.inl ⟨by rfl, ?_⟩) hHeld ?_ ?_
                        rotate_left
                        · rintro w' ⟨s0, s1, s2, s3, s4, s5, s6, s7, s8, s9, s10, s11, s12⟩
                          go_simp
                          with_reducible rfl
                        rotate_left
                        · simp only [Act.put, List.setIfInBounds_toArray, List.set_cons_zero, List.set_cons_succ, i64_w, i32_w]
                          rfl
                        refine pure_ (i := 7) (N := some 42) (v := ?_) (a' := ?_) #[true, true, true, true, true, true, true, true, false, true, true, true, true, false, false, false, false] rfl rfl (any_of HT_.out (by kernel_rfl)) (fun _ _ _ h => h) (Or.inl ⟨by rfl, ?_⟩) ?_ ?_
                        rotate_left
                        · intro w'
                          go_simp
                          with_reducible rfl
                        rotate_left
                        · simp only [Act.put, List.setIfInBounds_toArray, List.set_cons_zero, List.set_cons_succ, i64_w, i32_w]
                          rfl
                        refine take_ (i := 8) (N := some 43) (v := ?_) (a' := ?_) #[true, true, true, true, true, true, true, true, true, true, true, true, true, false, false, false, false] rfl rfl (take_ofW HT_.out HW_.out (by kernel_rfl)) (fun _ _ _ h => h) (Or.inl ⟨by rfl, ?_⟩) hHeld ?_ ?_
                        rotate_left
                        · rintro w' ⟨s0, s1, s2, s3, s4, s5, s6, s7, s8, s9, s10, s11, s12⟩
                          go_simp
                          with_reducible rfl
                        rotate_left
                        · simp only [Act.put, List.setIfInBounds_toArray, List.set_cons_zero, List.set_cons_succ, i64_w, i32_w]
                          rfl
                        refine take_ (i := 13) (N := some 48) (v := ?_) (a' := ?_) #[true, true, true, true, true, true, true, true, true, true, true, true, true, true, false, false, false] rfl rfl (take_ofW HT_.out HW_.out (by kernel_rfl)) (fun _ _ _ h => h) (Or.inl ⟨by rfl, ?_⟩) hHeld ?_ ?_
                        rotate_left
                        · rintro w' ⟨s0, s1, s2, s3, s4, s5, s6, s7, s8, s9, s10, s11, s12⟩
                          go_simp
                          with_reducible rfl
                        rotate_left
                        · simp only [Act.put, List.setIfInBounds_toArray, List.set_cons_zero, List.set_cons_succ, i64_w, i32_w]
                          rfl
                        refine pure_ (i := 14) (N := some 49) (v := ?_) (a' := ?_) #[true, true, true, true, true, true, true, true, true, true, true, true, true, true, true, false, false] rfl rfl (any_of HT_.out (by kernel_rfl)) (fun _ _ _ h => h) (Or.inl ⟨by rfl, ?_⟩) ?_ ?_
                        rotate_left
                        · intro w'
                          go_simp
                          with_reducible rfl
                        rotate_left
                        · simp only [Act.put, List.setIfInBounds_toArray, List.set_cons_zero, List.set_cons_succ, i64_w, i32_w]
                          rfl
                        refine pure_ (i := 15) (N := some 50) (v := ?_) (a' := ?_) #[true, true, true, true, true, true, true, true, true, true, true, true, true, true, true, true, false] rfl rfl (any_of HT_.out (by kernel_rfl)) (fun _ _ _ h => h) (Or.inl ⟨by rfl, ?_⟩) ?_ ?_
                        rotate_left
                        · intro w'
                          go_simp
                          with_reducible rfl
                        rotate_left
                        · simp only [Act.put, List.setIfInBounds_toArray, List.set_cons_zero, List.set_cons_succ, i64_w, i32_w]
                          rfl
                        refine last_ (i := 16) (N := none) #[true, true, true, true, true, true, true, true, true, true, true, true, true, true, true, true, true] rfl rfl (one_of HT_.out (by kernel_rfl)) (by decide) (fun K hK => ?_)
                        refine skip_ (w1 := ?_) (by rfl) rfl ?_ ?_
                        rotate_left
                        · go_simp
                          rfl
                        refine hK.out _ _ ?_
                        clear hK K
                        refine done_ (done_of HT_.out (by kernel_rfl)) ?_
                        try go_wp2
                        have n0_ : Aside0 (Kd.R k49 49 (w27.setCell ⟨go23, (((rd_T47 l0_1 x10_1).f1) : Int).toNat, none⟩ (.int .i64 (wrap64 ((rd x8_1 ((rd_T47 l0_1 x10_1).f1)) + ((rd_T49 t125 x10_1).f2))))) w.heap.size (fun _ => True) (.slice (some ad139) t125.length co26) t125) := ⟨by (with_reducible repeat (first | apply Kd.R_alloc | apply Kd.R_drewN | apply Kd.R_drew)); exact Kd.R_mono (Kd.R_far (p := ⟨go23, (((rd_T47 l0_1 x10_1).f1) : Int).toNat, none⟩) (Kd.R_types HO_6.out GG23.out (by decide)) (fun _ hk => hk.2) (.int .i64 (wrap64 ((rd x8_1 ((rd_T47 l0_1 x10_1).f1)) + ((rd_T49 t125 x10_1).f2))))) (fun _ hk => trivial)⟩
                        have n1_ : Aside0 (Kd.R (Kd.int .i64) 3 (w27.setCell ⟨go23, (((rd_T47 l0_1 x10_1).f1) : Int).toNat, none⟩ (.int .i64 (wrap64 ((rd x8_1 ((rd_T47 l0_1 x10_1).f1)) + ((rd_T49 t125 x10_1).f2))))) w.heap.size (fun k_ => some k_ ≠ (v135 : Value).ownBlock) (.slice (some ⟨go23, 0, none⟩) x8_1.length co28) y140) := ⟨by (with_reducible repeat (first | apply Kd.R_alloc | apply Kd.R_drewN | apply Kd.R_drew)); exact HQ29.out⟩
                        have n2_ : Aside0 (Kd.R (Kd.int .i64) 3 (w27.setCell ⟨go23, (((rd_T47 l0_1 x10_1).f1) : Int).toNat, none⟩ (.int .i64 (wrap64 ((rd x8_1 ((rd_T47 l0_1 x10_1).f1)) + ((rd_T49 t125 x10_1).f2))))) w.heap.size (fun k_ => some k_ ≠ (.slice (some ⟨go23, 0, none⟩) x8_1.length co28 : Value).ownBlock) v135 x9_1) := ⟨by (with_reducible repeat (first | apply Kd.R_alloc | apply Kd.R_drewN | apply Kd.R_drew)); exact Kd.R_mono (Kd.R_far (p := ⟨go23, (((rd_T47 l0_1 x10_1).f1) : Int).toNat, none⟩) (Kd.R_mono HO_9.out (fun k_ hk => (⟨hk, fun e_ => hk (by rw [e_]; rfl)⟩ : _ ∧ k_ ≠ go23))) (fun _ hk => hk.2) (.int .i64 (wrap64 ((rd x8_1 ((rd_T47 l0_1 x10_1).f1)) + ((rd_T49 t125 x10_1).f2))))) (fun _ hk => hk.1)⟩
                        have n3_ : Aside0 ((w27.setCell ⟨go23, (((rd_T47 l0_1 x10_1).f1) : Int).toNat, none⟩ (.int .i64 (wrap64 ((rd x8_1 ((rd_T47 l0_1 x10_1).f1)) + ((rd_T49 t125 x10_1).f2))))).heap[gb123]? = some (.cells #[.slice A0_0 l0_0.length c0_0, .slice (some ad137) l0_1.length c0_1, .slice A0_2 l0_2.length c0_2] 26 (0, 0))) := ⟨by (with_reducible repeat (first | refine blk_drewN ?_ _ | refine blk_drew ?_ | refine blk_alloc ?_ _)); refine blk_far ?_ (by have h_ := Kd.R_ne HO_8.out BK123.out (by decide); intro e_; exact h_ (by rw [e_]; rfl)) _; (with_reducible repeat (first | refine blk_drewN ?_ _ | refine blk_drew ?_ | refine blk_alloc ?_ _)); exact BK123.out⟩
                        have n4_ : Aside0 (Below w.heap.size w (w27.setCell ⟨go23, (((rd_T47 l0_1 x10_1).f1) : Int).toNat, none⟩ (.int .i64 (wrap64 ((rd x8_1 ((rd_T47 l0_1 x10_1).f1)) + ((rd_T49 t125 x10_1).f2)))))) := ⟨by repeat (first | (with_reducible first | exact HB.out | apply below_alloc | apply pw_below_drewN | apply below_drew1 | refine below_set ?_ GB23.out | refine below_set ?_ GE123.out) | exact HB.out)⟩
                        (try clear HO_6)
                        (try clear HO_8)
                        (try clear HO_9)
                        (try clear BK123)
                        (try clear HB)
                        generalize (w27.setCell ⟨go23, (((rd_T47 l0_1 x10_1).f1) : Int).toNat, none⟩ (.int .i64 (wrap64 ((rd x8_1 ((rd_T47 l0_1 x10_1).f1)) + ((rd_T49 t125 x10_1).f2))))) = w30 at n0_ n1_ n2_ n3_ n4_ ⊢
                        have HO_6 := n0_
                        have HO_8 := n1_
                        have HO_9 := n2_
                        have BK123 := n3_
                        have HB := n4_
                        clear n0_ n1_ n2_ n3_ n4_
                        have n0_ := Aside0.mk (Kd.R_drew HO_6.out)
                        have n1_ := Aside0.mk (Kd.R_drew HO_8.out)
                        have n2_ := Aside0.mk (Kd.R_drew HO_9.out)
                        have n3_ := Aside0.mk (blk_drew BK123.out)
                        have n4_ := Aside0.mk (below_drew1 HB.out)
                        clear HO_6
                        clear HO_8
                        clear HO_9
                        clear BK123
                        clear HB
                        have HO_6 := n0_
                        have HO_8 := n1_
                        have HO_9 := n2_
                        have BK123 := n3_
                        have HB := n4_
                        clear n0_ n1_ n2_ n3_ n4_
                        have p141 : 0 ≤ (x10_1 : Int) := of_decide_eq_true (by first | (with_reducible assumption) | assumption)
                        have q141 : x10_1 < (l0_1.length : Int) := of_decide_eq_true (by first | (with_reducible assumption) | assumption)
                        obtain ⟨ad141, e141, hx141_0, hx141_1, hx141_2, hx141_3, hx141_4⟩ := at_T47 HR0_1.out x10_1 p141 q141
                        have hw141_4 := hx141_4
                        have hw141_3 := hx141_3
                        have hw141_2 := hx141_2
                        have hw141_1 := hx141_1
                        have hw141_0 := hx141_0
                        obtain rfl : ad137 = ad141 := (by injection e141)
                        replace hx141_0 := (HB.out.cell (World.block_lt_of_cell? w _ hx141_0)).trans hx141_0
                        replace hx141_1 := (HB.out.cell (World.block_lt_of_cell? w _ hx141_1)).trans hx141_1
                        replace hx141_2 := (HB.out.cell (World.block_lt_of_cell? w _ hx141_2)).trans hx141_2
                        replace hx141_3 := (HB.out.cell (World.block_lt_of_cell? w _ hx141_3)).trans hx141_3
                        replace hx141_4 := (HB.out.cell (World.block_lt_of_cell? w _ hx141_4)).trans hx141_4
                        replace p141 := eq_true p141
                        replace q141 := eq_true q141
                        obtain ⟨Ao32, co32, eo32⟩ := Kd.R_slice HO_9.out
                        (first | subst eo32 | (injection eo32 with f1_ f2_ f3_; have f4_ := f1_.symm; have f5_ := f3_.symm; clear f1_ f2_ f3_; subst f4_; subst f5_))
                        have p142 : 0 ≤ (((rd_T47 l0_1 x10_1).f1) : Int) := of_decide_eq_true (by first | (with_reducible assumption) | assumption)
                        have q142 : ((rd_T47 l0_1 x10_1).f1) < (x9_1.length : Int) := of_decide_eq_true (by first | (with_reducible assumption) | assumption)
                        obtain ⟨ad142, e142, hx142_0⟩ := Kd.at_int (Kd.R_reads' HO_9.out).2.2 ((rd_T47 l0_1 x10_1).f1) p142 q142
                        cases e142
                        replace p142 := eq_true p142
                        replace q142 := eq_true q142
                        have p143 : 0 ≤ (x10_1 : Int) := of_decide_eq_true (by first | (with_reducible assumption) | assumption)
                        have q143 : x10_1 < (t125.length : Int) := of_decide_eq_true (by first | (with_reducible assumption) | assumption)
                        obtain ⟨ad143, e143, hx143_0, hx143_1, hx143_2, hx143_3⟩ := at_T49 (Kd.R_reads' HO_6.out).2.2 x10_1 p143 q143
                        obtain rfl : ad139 = ad143 := (by injection e143)
                        replace p143 := eq_true p143
                        replace q143 := eq_true q143
                        have p25 : 0 ≤ (((rd_T47 l0_1 x10_1).f1) : Int) := of_decide_eq_true (by first | (with_reducible assumption) | assumption)
                        have q25 : (((rd_T47 l0_1 x10_1).f1) : Int) < ((x9_1.length : Int) : Int) := of_decide_eq_true (by first | (with_reducible assumption) | assumption)
                        obtain ⟨go25, co25, eo25, gb25, gl25, cl25, HG25⟩ := Kd.R_form HO_9.out (by omega)
                        (first | cases eo25 | (injection eo25 with ea_ en_ ec_; (first | subst ea_ | (injection ea_ with ea_; subst ea_)); subst ec_; clear en_))
                        have GB25 := Aside0.mk gb25
                        have GG25 := Aside0.mk HG25
                        clear gb25 gl25 HG25
                        (first | simp only [add_plain] at hx142_0 | skip)
                        obtain ⟨hx25_0, hf25_0⟩ := Kd.R_celln 0 HO_9.out (((rd_T47 l0_1 x10_1).f1) : Int) p25 q25
                        replace p25 := eq_true p25
                        replace q25 := eq_true q25
                        have HP33 := Kd.R_putn HO_9.out (((rd_T47 l0_1 x10_1).f1) : Int) (wrap64 ((rd x9_1 ((rd_T47 l0_1 x10_1).f1)) + ((rd_T49 t125 x10_1).f3)))
                        rw [← Ny144.out] at HP33
                        have HQ33 := Aside0.mk HP33
                        clear HP33
                        refine start_ (n := 17) (S := fun w' => w'.cell? ⟨gb123, 0, none⟩ = some (.slice A0_0 l0_0.length c0_0) ∧ w'.cell? ⟨gb123, 1, none⟩ = some (.slice (some ad137) l0_1.length c0_1) ∧ w'.cell? ⟨gb123, 2, none⟩ = some (.slice A0_2 l0_2.length c0_2) ∧ w'.cell? (ad137.add ((x10_1).toNat * 5)) = some (.int .i64 ((rd_T47 l0_1 x10_1).f0)) ∧ w'.cell? ⟨(ad137.add ((x10_1).toNat * 5)).block, (ad137.add ((x10_1).toNat * 5)).off + 1, none⟩ = some (.int .i64 ((rd_T47 l0_1 x10_1).f1)) ∧ w'.cell? ⟨(ad137.add ((x10_1).toNat * 5)).block, (ad137.add ((x10_1).toNat * 5)).off + 2, none⟩ = some (.int .i64 ((rd_T47 l0_1 x10_1).f2)) ∧ w'.cell? ⟨(ad137.add ((x10_1).toNat * 5)).block, (ad137.add ((x10_1).toNat * 5)).off + 3, none⟩ = some (.int .i64 ((rd_T47 l0_1 x10_1).f3)) ∧ w'.cell? ⟨(ad137.add ((x10_1).toNat * 5)).block, (ad137.add ((x10_1).toNat * 5)).off + 4, none⟩ = some (.int .i64 ((rd_T47 l0_1 x10_1).f4)) ∧ w'.cell? ⟨go25, ((rd_T47 l0_1 x10_1).f1).toNat, none⟩ = some (.int .i64 (rd x9_1 ((rd_T47 l0_1 x10_1).f1))) ∧ w'.cell? (ad139.add ((x10_1).toNat * 4)) = some (.int .i64 ((rd_T49 t125 x10_1).f0)) ∧ w'.cell? ⟨(ad139.add ((x10_1).toNat * 4)).block, (ad139.add ((x10_1).toNat * 4)).off + 1, none⟩ = some (.int .i64 ((rd_T49 t125 x10_1).f1)) ∧ w'.cell? ⟨(ad139.add ((x10_1).toNat * 4)).block, (ad139.add ((x10_1).toNat * 4)).off + 2, none⟩ = some (.int .i64 ((rd_T49 t125 x10_1).f2)) ∧ w'.cell? ⟨(ad139.add ((x10_1).toNat * 4)).block, (ad139.add ((x10_1).toNat * 4)).off + 3, none⟩ = some (.int .i64 ((rd_T49 t125 x10_1).f3))) (ds := [16]) #[false, false, false, false, false, false, false, false, false, false, false, false, false, false, false, false, false] (by kernel_rfl) rfl rfl ⟨(blk_cell BK123.out 0).trans rfl, (blk_cell BK123.out 1).trans rfl, (blk_cell BK123.out 2).trans rfl, ((HB.out.cell (World.block_lt_of_cell? w _ hw141_0)).trans hw141_0), ((HB.out.cell (World.block_lt_of_cell? w _ hw141_1)).trans hw141_1), ((HB.out.cell (World.block_lt_of_cell? w _ hw141_2)).trans hw141_2), ((HB.out.cell (World.block_lt_of_cell? w _ hw141_3)).trans hw141_3), ((HB.out.cell (World.block_lt_of_cell? w _ hw141_4)).trans hw141_4), hx142_0, hx143_0, hx143_1, hx143_2, hx143_3⟩ (fun hHeld => ?_); refine with_tabW wishbookref10_Missing.tab10 wishbookref10_Missing.bits10 (fun HT_ HW_ => ?_)
                        generalize w30.drew = w31 at HO_6 HO_8 HO_9 BK123 HB GG25 HQ29 HQ33 hf25_0 hx141_0 hx141_1 hx141_2 hx141_3 hx141_4 hx142_0 hx143_0 hx143_1 hx143_2 hx143_3 hx25_0 hHeld ⊢
                        refine pure_ (i := 0) (N := some 51) (v := ?_) (a' := ?_) #[true, false, false, false, false, false, false, false, false, false, false, false, false, false, false, false, false] rfl rfl (any_of HT_.out (by kernel_rfl)) (fun _ _ _ h => h) (Or.inl ⟨by rfl, ?_⟩) ?_ ?_
                        rotate_left
                        · intro w'
                          go_simp
                          with_reducible rfl
                        rotate_left
                        · simp only [Act.put, List.setIfInBounds_toArray, List.set_cons_zero, List.set_cons_succ, i64_w, i32_w]
                          rfl
                        refine pure_ (i := 1) (N := some 52) (v := ?_) (a' := ?_) #[true, true, false, false, false, false, false, false, false, false, false, false, false, false, false, false, false] rfl rfl (any_of HT_.out (by kernel_rfl)) (fun _ _ _ h => h) (Or.inl ⟨by rfl, ?_⟩) ?_ ?_
                        rotate_left
                        · intro w'
                          go_simp
                          with_reducible rfl
                        rotate_left
                        · simp only [Act.put, List.setIfInBounds_toArray, List.set_cons_zero, List.set_cons_succ, i64_w, i32_w]
                          rfl
                        refine pure_ (i := 3) (N := some 54) (v := ?_) (a' := ?_) #[true, true, false, true, false, false, false, false, false, false, false, false, false, false, false, false, false] rfl rfl (any_of HT_.out (by kernel_rfl)) (fun _ _ _ h => h) (Or.inl ⟨by rfl, ?_⟩) ?_ ?_
                        rotate_left
                        · intro w'
                          go_simp
                          with_reducible rfl
                        rotate_left
                        · simp only [Act.put, List.setIfInBounds_toArray, List.set_cons_zero, List.set_cons_succ, i64_w, i32_w]
                          rfl
                        refine pure_ (i := 9) (N := some 60) (v := ?_) (a' := ?_) #[true, true, false, true, false, false, false, false, false, true, false, false, false, false, false, false, false] rfl rfl (any_of HT_.out (by kernel_rfl)) (fun _ _ _ h => h) (Or.inl ⟨by rfl, ?_⟩) ?_ ?_
                        rotate_left
                        · intro w'
                          go_simp
                          with_reducible rfl
                        rotate_left
                        · simp only [Act.put, List.setIfInBounds_toArray, List.set_cons_zero, List.set_cons_succ, i64_w, i32_w]
                          rfl
                        refine pure_ (i := 10) (N := some 61) (v := ?_) (a' := ?_) #[true, true, false, true, false, false, false, false, false, true, true, false, false, false, false, false, false] rfl rfl (any_of HT_.out (by kernel_rfl)) (fun _ _ _ h => h) (Or.inl ⟨by rfl, ?_⟩) ?_ ?_
                        rotate_left
                        · intro w'
                          go_simp
                          with_reducible rfl
                        rotate_left
                        · simp only [Act.put, List.setIfInBounds_toArray, List.set_cons_zero, List.set_cons_succ, i64_w, i32_w]
                          rfl
                        refine pure_ (i := 11) (N := some 62) (v := ?_) (a' := ?_) #[true, true, false, true, false, false, false, false, false, true, true, true, false, false, false, false, false] rfl rfl (any_of HT_.out (by kernel_rfl)) (fun _ _ _ h => h) (Or.inl ⟨by rfl, ?_⟩) ?_ ?_
                        rotate_left
                        · intro w'
                          go_simp
                          with_reducible rfl
                        rotate_left
                        · simp only [Act.put, List.setIfInBounds_toArray, List.set_cons_zero, List.set_cons_succ, i64_w, i32_w]
                          rfl
                        refine pure_ (i := 12) (N := some 63) (v := ?_) (a' := ?_) #[true, true, false, true, false, false, false, false, false, true, true, true, true, false, false, false, false] rfl rfl (any_of HT_.out (by kernel_rfl)) (fun _ _ _ h => h) (Or.inl ⟨by rfl, ?_⟩) ?_ ?_
                        rotate_left
                        · intro w'
                          go_simp
                          with_reducible rfl
                        rotate_left
                        · simp only [Act.put, List.setIfInBounds_toArray, List.set_cons_zero, List.set_cons_succ, i64_w, i32_w]
                          rfl
                        refine take_ (i := 2) (N := some 53) (v := ?_) (a' := ?_) #[true, true, true, true, false, false, false, false, false, true, true, true, true, false, false, false, false] rfl rfl (take_ofW HT_.out HW_.out (by kernel_rfl)) (fun _ _ _ h => h) (Or.inl ⟨by rfl, ?_⟩) hHeld ?_ ?_
                        rotate_left
                        · rintro w' ⟨s0, s1, s2, s3, s4, s5, s6, s7, s8, s9, s10, s11, s12⟩
                          go_simp
                          with_reducible rfl
                        rotate_left
                        · simp only [Act.put, List.setIfInBounds_toArray, List.set_cons_zero, List.set_cons_succ, i64_w, i32_w]
                          rfl
                        refine pure_ (i := 4) (N := some 55) (v := ?_) (a' := ?_) #[true, true, true, true, true, false, false, false, false, true, true, true, true, false, false, false, false] rfl rfl (any_of HT_.out (by kernel_rfl)) (fun _ _ _ h => h) (Or.inl ⟨by rfl, ?_⟩) ?_ ?_
                        rotate_left
                        · intro w'
                          go_simp
                          with_reducible rfl
                        rotate_left
                        · simp only [Act.put, List.setIfInBounds_toArray, List.set_cons_zero, List.set_cons_succ, i64_w, i32_w]
                          rfl
                        refine pure_ (i := 5) (N := some 56) (v := ?_) (a' := ?_) #[true, true, true, true, true, true, false, false, false, true, true, true, true, false, false, false, false] rfl rfl (any_of HT_.out (by kernel_rfl)) (fun _ _ _ h => h) (Or.inl ⟨by rfl, ?_⟩) ?_ ?_
                        rotate_left
                        · intro w'
                          go_simp
                          with_reducible rfl
                        rotate_left
                        · simp only [Act.put, List.setIfInBounds_toArray, List.set_cons_zero, List.set_cons_succ, i64_w, i32_w]
                          rfl
                        refine take_ (i := 6) (N := some 57) (v := ?_) (a' := ?_) #[true, true, true, true, true, true, true, false, false, true, true, true, true, false, false, false, false] rfl rfl (take_ofW HT_.out HW_.out (by kernel_rfl)) (fun _ _ _ h => h) (Or.inl ⟨by rfl, ?_⟩) hHeld ?_ ?_
                        rotate_left
                        · rintro w' ⟨s0, s1, s2, s3, s4, s5, s6, s7, s8, s9, s10, s11, s12⟩
                          go_simp
                          with_reducible rfl
                        rotate_left
                        · simp only [Act.put, List.setIfInBounds_toArray, List.set_cons_zero, List.set_cons_succ, i64_w, i32_w]
                          rfl
                        refine pure_ (i := 7) (N := some 58) (v := ?_) (a' := ?_) #[true, true, true, true, true, true, true, true, false, true, true, true, true, false, false, false, false] rfl rfl (any_of HT_.out (by kernel_rfl)) (fun _ _ _ h => h) (Or.inl ⟨by rfl, ?_⟩) ?_ ?_
                        rotate_left
                        · intro w'
                          go_simp
                          with_reducible rfl
                        rotate_left
                        · simp only [Act.put, List.setIfInBounds_toArray, List.set_cons_zero, List.set_cons_succ, i64_w, i32_w]
                          rfl
                        refine take_ (i := 8) (N := some 59) (v := ?_) (a' := ?_) #[true, true, true, true, true, true, true, true, true, true, true, true, true, false, false, false, false] rfl rfl (take_ofW HT_.out HW_.out (by kernel_rfl)) (fun _ _ _ h => h) (Or.inl ⟨by rfl, ?_⟩) hHeld ?_ ?_
                        rotate_left
                        · rintro w' ⟨s0, s1, s2, s3, s4, s5, s6, s7, s8, s9, s10, s11, s12⟩
                          go_simp
                          with_reducible rfl
                        rotate_left
                        · simp only [Act.put, List.setIfInBounds_toArray, List.set_cons_zero, List.set_cons_succ, i64_w, i32_w]
                          rfl
                        refine take_ (i := 13) (N := some 64) (v := ?_) (a' := ?_) #[true, true, true, true, true, true, true, true, true, true, true, true, true, true, false, false, false] rfl rfl (take_ofW HT_.out HW_.out (by kernel_rfl)) (fun _ _ _ h => h) (Or.inl ⟨by rfl, ?_⟩) hHeld ?_ ?_
                        rotate_left
                        · rintro w' ⟨s0, s1, s2, s3, s4, s5, s6, s7, s8, s9, s10, s11, s12⟩
                          go_simp
                          with_reducible rfl
                        rotate_left
                        · simp only [Act.put, List.setIfInBounds_toArray, List.set_cons_zero, List.set_cons_succ, i64_w, i32_w]
                          rfl
                        refine pure_ (i := 14) (N := some 65) (v := ?_) (a' := ?_) #[true, true, true, true, true, true, true, true, true, true, true, true, true, true, true, false, false] rfl rfl (any_of HT_.out (by kernel_rfl)) (fun _ _ _ h => h) (Or.inl ⟨by rfl, ?_⟩) ?_ ?_
                        rotate_left
                        · intro w'
                          go_simp
                          with_reducible rfl
                        rotate_left
                        · simp only [Act.put, List.setIfInBounds_toArray, List.set_cons_zero, List.set_cons_succ, i64_w, i32_w]
                          rfl
                        refine pure_ (i := 15) (N := some 66) (v := ?_) (a' := ?_) #[true, true, true, true, true, true, true, true, true, true, true, true, true, true, true, true, false] rfl rfl (any_of HT_.out (by kernel_rfl)) (fun _ _ _ h => h) (Or.inl ⟨by rfl, ?_⟩) ?_ ?_
                        rotate_left
                        · intro w'
                          go_simp
                          with_reducible rfl
                        rotate_left
                        · simp only [Act.put, List.setIfInBounds_toArray, List.set_cons_zero, List.set_cons_succ, i64_w, i32_w]
                          rfl
                        refine last_ (i := 16) (N := none) #[true, true, true, true, true, true, true, true, true, true, true, true, true, true, true, true, true] rfl rfl (one_of HT_.out (by kernel_rfl)) (by decide) (fun K hK => ?_)
                        refine skip_ (w1 := ?_) (by rfl) rfl ?_ ?_
                        rotate_left
                        · go_simp
                          rfl
                        refine hK.out _ _ ?_
                        clear hK K
                        refine done_ (done_of HT_.out (by kernel_rfl)) ?_
                        try go_wp2
                        go_roundg k1
                        case measure => have := HK1.out; omega
                        case rel => exact ⟨(y140), (y144), (wrap64 (x10_1 + 1)), (by first | rfl | (simp; done) | (simp [*]; done)), H', ⟨by have := HK1.out; omega⟩, ⟨by (with_reducible repeat (first | apply Kd.R_alloc | apply Kd.R_drewN | apply Kd.R_drew)); exact Kd.R_mono (Kd.R_far (p := ⟨go25, (((rd_T47 l0_1 x10_1).f1) : Int).toNat, none⟩) (Kd.R_types HO_6.out GG25.out (by decide)) (fun _ hk => hk.2) (.int .i64 (wrap64 ((rd x9_1 ((rd_T47 l0_1 x10_1).f1)) + ((rd_T49 t125 x10_1).f3))))) (fun _ hk => trivial)⟩, ⟨by (with_reducible repeat (first | apply Kd.R_alloc | apply Kd.R_drewN | apply Kd.R_drew)); exact Kd.R_mono (Kd.R_far (p := ⟨go25, (((rd_T47 l0_1 x10_1).f1) : Int).toNat, none⟩) (Kd.R_mono HO_8.out (fun k_ hk => (⟨hk, fun e_ => hk (by rw [e_]; rfl)⟩ : _ ∧ k_ ≠ go25))) (fun _ hk => hk.2) (.int .i64 (wrap64 ((rd x9_1 ((rd_T47 l0_1 x10_1).f1)) + ((rd_T49 t125 x10_1).f3))))) (fun _ hk => hk.1)⟩, ⟨by (with_reducible repeat (first | apply Kd.R_alloc | apply Kd.R_drewN | apply Kd.R_drew)); exact HQ33.out⟩, ⟨by (with_reducible repeat (first | refine blk_drewN ?_ _ | refine blk_drew ?_ | refine blk_alloc ?_ _)); refine blk_far ?_ (by have h_ := Kd.R_ne HO_9.out BK123.out (by decide); intro e_; exact h_ (by rw [e_]; rfl)) _; (with_reducible repeat (first | refine blk_drewN ?_ _ | refine blk_drew ?_ | refine blk_alloc ?_ _)); exact BK123.out⟩, ⟨by repeat (first | (with_reducible first | exact HB.out | apply below_alloc | apply pw_below_drewN | apply below_drew1 | refine below_set ?_ GB25.out | refine below_set ?_ GE123.out) | exact HB.out)⟩⟩
                      · rw [if_neg c24] at H
                        exact absurd H (by simp)
                    · rw [if_neg c22] at H
                      exact absurd H (by simp)
                  · rw [if_neg c21] at H
                    exact absurd H (by simp)
                · rw [if_neg c20] at H
                  exact absurd H (by simp)
              · rw [if_neg c19] at H
                exact absurd H (by simp)
            · rw [if_neg c18] at H
              have c18b0 : decide (x10_1 < (t125.length : Int)) = false := decide_eq_false c18
              clear c18
              simp only [Option.some.injEq, Prod.mk.injEq] at H
              obtain ⟨rfl, rfl, rfl⟩ := H
              obtain ⟨Ao34, co34, eo34⟩ := Kd.R_slice HO_6.out
              subst eo34
              go_wp2
              go_ret3
              exact ⟨_, _, by first | rfl | (simp [errW_none, errW_some] <;> rfl) | (simp [*, errW_none, errW_some] <;> rfl), by (with_reducible repeat (first | apply Kd.R_alloc | apply Kd.R_drewN | apply Kd.R_drew)); exact HO_8.out, by (with_reducible repeat (first | apply Kd.R_alloc | apply Kd.R_drewN | apply Kd.R_drew)); exact HO_9.out, by repeat (first | (with_reducible first | exact HB.out | apply below_alloc | apply pw_below_drewN | apply below_drew1 | refine below_set ?_ GE123.out) | exact HB.out)⟩
      · rw [if_neg c6] at H
        exact absurd H (by simp)
    · rw [if_neg c5] at H
      exact absurd H (by simp)
  · rw [if_neg c3] at H
    have c3b0 : (t124 == 0) = false := beq_eq_false_iff_ne.mpr c3
    have c3b1 : (t124 != 0) = true := bne_iff_ne.mpr c3
    simp only [Option.some.injEq, Prod.mk.injEq] at H
    obtain ⟨rfl, rfl, rfl⟩ := H
    go_enter Tryd.func15, Tryd.ntmps15
    go_wp2_with (first | ((with_reducible refine gate_dst (N := 1) rfl ?_); refine box_event ?hg (N := 1) ?hd (cs := #[.slice A0_0 l0_0.length c0_0, .slice A0_1 l0_1.length c0_1, .slice A0_2 l0_2.length c0_2]) (t := 26) ?hr ?_; (case hd => rfl); (case hg => rfl); (case hr => first | (go_simp; done) | (go_simp; rfl)); intro gb123 hg w35 hbox hb; have n0_ := Aside0.mk (below_step (by repeat (first | (with_reducible first | exact HB.out | apply below_alloc | apply pw_below_drewN | apply below_drew1) | exact HB.out)) hb); have n1_ := Aside0.mk (hbox); have n2_ := Aside0.mk ((by rw [hg]; exact (below_size (by repeat (first | (with_reducible first | exact HB.out | apply below_alloc | apply pw_below_drewN | apply below_drew1) | exact HB.out))) : w.heap.size ≤ gb123)); have n3_ := Aside0.mk ((by rw [hg]; exact (below_size (by repeat (first | (with_reducible first | exact HB.out | apply below_alloc | apply pw_below_drewN | apply below_drew1) | exact HB.out))) : w.heap.size ≤ gb123)); clear HB; have HB := n0_; have BK123 := n1_; have GW123 := n2_; have GE123 := n3_; clear n0_ n1_ n2_ n3_; clear hb hbox hg; have hcz36_0 : w35.cell? ⟨gb123, 0, none⟩ = some (.slice A0_0 l0_0.length c0_0) := (blk_cell BK123.out 0).trans rfl; have hcz36_1 : w35.cell? ⟨gb123, 1, none⟩ = some (.slice A0_1 l0_1.length c0_1) := (blk_cell BK123.out 1).trans rfl; have hcz36_2 : w35.cell? ⟨gb123, 2, none⟩ = some (.slice A0_2 l0_2.length c0_2) := (blk_cell BK123.out 2).trans rfl; have hfz36_0 := blk_frozen BK123.out 0; have hfz36_1 := blk_frozen BK123.out 1; have hfz36_2 := blk_frozen BK123.out 2) | ((with_reducible refine gate_callee (f := 47) rfl ?_); refine goesL_ (some 12) rfl rfl Tryd.func47 (by kernel_rfl) rfl #[.agg #[.slice A0_0 l0_0.length c0_0, .slice A0_1 l0_1.length c0_1, .slice A0_2 l0_2.length c0_2]] rfl (by (try simp only [List.map_toArray, List.map_cons, List.map_nil]); first | done | rfl | (simp only [List.length_drop, List.length_take]; rfl)) ?_; (with_reducible refine (wishbookref10_Check.calls _ _ l0_0 _ _ l0_1 _ _ l0_2 t124 _ ?side1 ?side2 ?side3 ?side4 ?side5 ?side6 A2.out).mono ?_); (case side1 => repeat (first | exact (Kd.C_below HR0_0.out HB.out) | (with_reducible refine Kd.C_alloc ?_ _) | (with_reducible refine Kd.C_drewN ?_ _) | (with_reducible refine Kd.C_drew ?_))); (case side2 => exact HC0_0.out); (case side3 => repeat (first | exact (Kd.C_below HR0_1.out HB.out) | (with_reducible refine Kd.C_alloc ?_ _) | (with_reducible refine Kd.C_drewN ?_ _) | (with_reducible refine Kd.C_drew ?_))); (case side4 => exact HC0_1.out); (case side5 => repeat (first | exact (Kd.C_below HR0_2.out HB.out) | (with_reducible refine Kd.C_alloc ?_ _) | (with_reducible refine Kd.C_drewN ?_ _) | (with_reducible refine Kd.C_drew ?_))); (case side6 => exact HC0_2.out); rintro e w37 ⟨rfl, hb⟩; refine ⟨_, rfl, ?_⟩; have n0_ := Aside0.mk (blk_below (g := gb123) (o := .cells #[.slice A0_0 l0_0.length c0_0, .slice A0_1 l0_1.length c0_1, .slice A0_2 l0_2.length c0_2] 26 (0, 0)) (by (with_reducible repeat (first | refine blk_drewN ?_ _ | refine blk_drew ?_ | refine blk_alloc ?_ _)); exact BK123.out) hb); have n1_ := Aside0.mk (below_step (by repeat (first | (with_reducible first | exact HB.out | apply below_alloc | apply pw_below_drewN | apply below_drew1 | refine below_set ?_ GE123.out) | exact HB.out)) hb); clear BK123; clear HB; have BK123 := n0_; have HB := n1_; clear n0_ n1_; (try clear hb); (try clear hb2); (try clear hk); (try clear hi)))
    go_ret3
    exact ⟨_, _, by first | rfl | (simp [errW_none, errW_some] <;> rfl) | (simp [*, errW_none, errW_some] <;> rfl), by first | exact Kd.R_nil _ _ _ _ _ | exact Kd.N_nil _ _ _ _ _ | exact Kd.V_nil _ _ _ _ _ | exact Kd.Q_nil _ _ _ _ _ | exact Kd.S_nil _ _ _ _ _, by first | exact Kd.R_nil _ _ _ _ _ | exact Kd.N_nil _ _ _ _ _ | exact Kd.V_nil _ _ _ _ _ | exact Kd.Q_nil _ _ _ _ _ | exact Kd.S_nil _ _ _ _ _, by repeat (first | (with_reducible first | exact HB.out | apply below_alloc | apply pw_below_drewN | apply below_drew1 | refine below_set ?_ GE123.out) | exact HB.out)⟩
end Go.Proofs.YtegpepnmnlockaaDoor.PL
namespace Go.Proofs.YtegpepnmnlockaaDoor.PL
open Go.RowKit Go.Proofs.YtegpepnmnlockaaDoorW.PrintWords Go.Proofs.YtegpepnmnlockaaDoorW.PrintLast Go.Proofs.YtegpepnmnlockaaDoorW.PrintMore
set_option linter.unusedVariables false
set_option linter.unusedSimpArgs false
theorem RCheck_f (l0 : List Int) (l1 : List S47) (l2 : List S57) (hf : Few l0 l1 l2) : wishbookref10_Check.f l0 l1 l2 = some (if okB l0 l1 l2 = true then 0 else 100) := by
  unfold wishbookref10_Check.f
  rw [if_pos hf]
  rfl
end Go.Proofs.YtegpepnmnlockaaDoor.PL
namespace Go.Proofs.YtegpepnmnlockaaDoor.PL
open Go.RowKit Go.Proofs.YtegpepnmnlockaaDoorW.PrintWords Go.Proofs.YtegpepnmnlockaaDoorW.PrintLast Go.Proofs.YtegpepnmnlockaaDoorW.PrintMore
set_option linter.unusedVariables false
set_option linter.unusedSimpArgs false
theorem keptF_iff (l1 : List S47) (good : Int) (sh : List S49) (F : Int → Int → Int) : keptF l1 good sh F = true ↔ ∀ d : Nat, d < 101 → dueTo l1 good d sh sh.length ≤ F good d := by
  unfold keptF keptUpto
  rw [List.all_eq_true]
  exact ⟨fun h d hd => of_decide_eq_true (h d (List.mem_range.2 hd)), fun h d hd => decide_eq_true (h d (List.mem_range.1 hd))⟩
theorem dueTo_snoc (l1 : List S47) (good d : Int) (sh : List S49) (s : S49) : dueTo l1 good d (sh ++ [s]) (sh ++ [s]).length = dueTo l1 good d sh sh.length + if (rd_T47 l1 sh.length).f1 = good ∧ (rd_T47 l1 sh.length).f3 ≤ d then s.f2 else 0 := by
  rw [List.length_append, List.length_singleton, dueTo, dueTo_cong l1 good d (sh ++ [s]) sh sh.length (fun j hj => by rw [rd_old49 _ _ hj]), rd_snoc49]
theorem keptN_listed {l1 : List S47} {good : Int} {sh : List S49} {F : Int → Int → Int} (h : keptF l1 good sh F = true) : ∀ n, keptN l1 good sh F (listedF l1 good sh F n) = true
  | 0 => by
    unfold keptN listedF
    rw [keptF_iff] at *
    intro d hd
    have := h d hd
    rw [dueTo_snoc]
    split <;> simp <;> omega
  | n + 1 => by
    rw [listedF]
    split
    · assumption
    · exact keptN_listed h n
/-- The list that is told can be kept, of each good, of the first lines. -/
theorem serve_kept {l0 : List Int} {l1 : List S47} {l2 : List S57} (hb : okB l0 l1 l2 = true) (F : Int → Int → Int) (hF : ∀ g d, 0 ≤ F g d) (good : Int) : ∀ k : Nat, k ≤ l1.length → keptF l1 good (serveF l1 F k 0 (left0 l0, [])).2 F = true
  | 0, _ => by
    rw [keptF_iff]
    intro d _
    exact hF good d
  | k + 1, hk => by
    have ih := serve_kept hb F hF good k (by omega)
    obtain ⟨e1, e2, e3, e4⟩ := serve_facts hb F k (by omega)
    have hs := serveF_snoc l1 F k 0 (left0 l0, [])
    rw [Nat.zero_add] at hs
    rw [hs]
    unfold stepF
    generalize serveF l1 F k 0 (left0 l0, []) = s at *
    dsimp only
    by_cases hg : (rd_T47 l1 k).f1 = good
    · subst hg
      have h2 := keptN_listed ih (wantF (rd_T47 l1 k) s.1).toNat
      unfold keptN at h2
      rw [keptF_iff] at *
      intro d hd
      have := h2 d hd
      rw [dueTo_snoc] at *
      exact this
    · rw [keptF_iff] at *
      intro d hd
      have := ih d hd
      rw [e2] at this
      rw [dueTo_snoc, e2, if_neg (fun h => hg h.1)]
      omega
theorem comTo_nonneg {l2 : List S57} (h : ∀ y ∈ l2, OkDel y) (g d : Int) : 0 ≤ comTo l2 l2.length g d := (comTo_bd h g d l2.length (Nat.le_refl _)).1
theorem serv_kept {l0 : List Int} {l1 : List S47} {l2 : List S57} (hb : okB l0 l1 l2 = true) (good : Int) : keptF l1 good (servF l0 l1 l2).2 (comTo l2 l2.length) = true :=
  serve_kept hb _ (comTo_nonneg (fun y hy => okDel_of (okB_facts hb).2.1 ((okB_facts hb).2.2.2.2.2.2.2 y hy))) good l1.length (Nat.le_refl _)
/-- What truly came by a day is no less than what surely has come. -/
theorem came_surely {l2 : List S57} {l3 : List S59} (hl : l3.length = l2.length) (hd : didAt l2 l3 l3.length = true) (hok : ∀ i : Nat, i < l2.length → 0 ≤ (rd_T57 l2 i).f2.f0) (g d : Int) (hdd : d ≤ 100) : ∀ n : Nat, n ≤ l3.length → comTo l2 n g d ≤ cameBy l2 l3 g d n
  | 0, _ => Int.le_refl _
  | n + 1, hn => by
    have ih := came_surely hl hd hok g d hdd n (by omega)
    have h0 := hok n (by omega)
    unfold didAt at hd
    rw [Bool.and_eq_true, List.all_eq_true] at hd
    have hx := hd.2 n (List.mem_range.2 (by omega))
    rw [Bool.and_eq_true, decide_eq_true_eq, decide_eq_true_eq] at hx
    unfold inDay inBy at hx
    rw [comTo, cameBy]
    split <;> split <;> omega
theorem need_due (l1 : List S47) (sh : List S49) (line : Nat) (hs : ∀ i : Nat, 0 ≤ (rd_T49 sh i).f2) : ∀ n, needG l1 sh line n ≤ dueTo l1 (rd_T47 l1 line).f1 (rd_T47 l1 line).f3 sh n
  | 0 => Int.le_refl _
  | n + 1 => by
    have ih := need_due l1 sh line hs n
    have h0 := hs n
    rw [needG, dueTo]
    unfold turnLe
    split <;> split <;> omega
/-- By the day by which its customer waits so much has come as a line needs. -/
theorem there_until {l0 : List Int} {l1 : List S47} {l2 : List S57} {l3 : List S59} (hb : okB l0 l1 l2 = true) (hl : l3.length = l2.length) (hd : didAt l2 l3 l3.length = true) (line : Nat) (hline : line < l1.length) :
    needG l1 (servF l0 l1 l2).2 line l1.length ≤ cameBy l2 l3 (rd_T47 l1 line).f1 (rd_T47 l1 line).f3 l3.length := by
  have f := okB_facts hb
  have hx := okB_line hb hline
  unfold okLine at hx
  have hlen := (servF_len l1 l2 f.2.1).2
  have hk := (keptF_iff _ _ _ _).1 (serv_kept hb (rd_T47 l1 line).f1) (rd_T47 l1 line).f3.toNat (by omega)
  rw [Int.toNat_of_nonneg (by omega), hlen] at hk
  have h1 := need_due l1 (servF l0 l1 l2).2 line (fun i => (share_bd (servF_ok hb).2 i).1) l1.length
  have h2 := came_surely hl hd (fun i hi => by have := okB_del hb hi; unfold okDel at this; omega) (rd_T47 l1 line).f1 (rd_T47 l1 line).f3 (by omega) l3.length (Nat.le_refl _)
  rw [hl] at *
  omega
end Go.Proofs.YtegpepnmnlockaaDoor.PL
namespace Go.Proofs.YtegpepnmnlockaaDoor.PL
open Go.RowKit Go.Proofs.YtegpepnmnlockaaDoorW.PrintWords Go.Proofs.YtegpepnmnlockaaDoorW.PrintLast Go.Proofs.YtegpepnmnlockaaDoorW.PrintMore
attribute [local go_sem] max2_int min2_int max_two min_two max_three min_three max_four min_four   -- for this text's walks alone
set_option linter.unusedVariables false
set_option linter.unusedSimpArgs false
def wishbookref10_first.l0 : Nat → List Int → Int → Int → List Int → List (S47) → List (S57) → Option (Int)
  | 0, _, _, _, _, _, _ => none
  | k + 1, x1, x5, x6, x267000, x267001, x267002 => if x6 < (x1.length : Int) then (if 0 ≤ x6 then (if (rd x1 x6) > 0 then (if x5 < 0 then (wishbookref10_first.l0 k x1 x6 (wrap64 (x6 + 1)) x267000 x267001 x267002) else (if x6 < (x267001.length : Int) then (if 0 ≤ x5 then (if x5 < (x267001.length : Int) then (if ((rd_T47 x267001 x6).f3) < ((rd_T47 x267001 x5).f3) then (wishbookref10_first.l0 k x1 x6 (wrap64 (x6 + 1)) x267000 x267001 x267002) else (wishbookref10_first.l0 k x1 x5 (wrap64 (x6 + 1)) x267000 x267001 x267002)) else (none)) else (none)) else (none))) else (wishbookref10_first.l0 k x1 x5 (wrap64 (x6 + 1)) x267000 x267001 x267002)) else (none)) else (some x5)
def wishbookref10_first.f (k : Nat) (l0_0 : List Int) (l0_1 : List (S47)) (l0_2 : List (S57)) (l1 : List Int) : Option (Int) := wishbookref10_first.l0 k l1 (-1) 0 l0_0 l0_1 l0_2
theorem wishbookref10_first.mono_l : ∀ k, (∀ y0 y1 y2 y3 y4 y5, LeO (wishbookref10_first.l0 k y0 y1 y2 y3 y4 y5) (wishbookref10_first.l0 (k + 1) y0 y1 y2 y3 y4 y5))
  | 0 => fun _ _ _ _ _ _ r h => by simp [wishbookref10_first.l0] at h
  | k + 1 => by
    have ih0 := wishbookref10_first.mono_l k
    · intro y0 y1 y2 y3 y4 y5
      unfold wishbookref10_first.l0
      repeat' first
      | (with_reducible exact ih0 _ _ _ _ _ _)
      | (with_reducible exact LeO.refl _)
      | (with_reducible exact LeO.none _)
      | (with_reducible refine LeO.ite ?_ ?_)
      | (with_reducible refine LeO.bind ?_ (fun _ => ?_))
      | exact ih0 _ _ _ _ _ _
      | exact LeO.none _
      | refine LeO.ite ?_ ?_
      | refine LeO.bind ?_ (fun _ => ?_)
theorem wishbookref10_first.mono : ∀ a0 a1 a2 a3 k, LeO (wishbookref10_first.f k a0 a1 a2 a3) (wishbookref10_first.f (k + 1) a0 a1 a2 a3) := by
  intro a0 a1 a2 a3 k
  have ih0 := wishbookref10_first.mono_l k
  unfold wishbookref10_first.f
  repeat' first
      | (with_reducible exact ih0 _ _ _ _ _ _)
      | (with_reducible exact LeO.refl _)
      | (with_reducible exact LeO.none _)
      | (with_reducible refine LeO.ite ?_ ?_)
      | (with_reducible refine LeO.bind ?_ (fun _ => ?_))
      | exact ih0 _ _ _ _ _ _
      | exact LeO.none _
      | refine LeO.ite ?_ ?_
      | refine LeO.bind ?_ (fun _ => ?_)
set_option maxHeartbeats 8000000 in
set_option maxRecDepth 100000 in
theorem wishbookref10_first.calls (k : Nat) (A0_0 : Option Addr) (c0_0 : Nat) (l0_0 : List Int) (A0_1 : Option Addr) (c0_1 : Nat) (l0_1 : List (S47)) (A0_2 : Option Addr) (c0_2 : Nat) (l0_2 : List (S57)) (A1 : Option Addr) (c1 : Nat) (l1 : List Int) (r : Int) (w : World) (hr0_0 : Kd.C (Kd.int .i64) w A0_0 l0_0.length l0_0) (hc0_0 : l0_0.length ≤ c0_0) (hr0_1 : Kd.C k47 w A0_1 l0_1.length l0_1) (hc0_1 : l0_1.length ≤ c0_1) (hr0_2 : Kd.C k57 w A0_2 l0_2.length l0_2) (hc0_2 : l0_2.length ≤ c0_2) (hr1 : Kd.C (Kd.int .i64) w A1 l1.length l1) (hc1 : l1.length ≤ c1) (h : wishbookref10_first.f k l0_0 l0_1 l0_2 l1 = some r) :
    Calls Tryd.prog 74 #[.agg #[.slice A0_0 l0_0.length c0_0, .slice A0_1 l0_1.length c0_1, .slice A0_2 l0_2.length c0_2], .slice A1 l1.length c1] w fun e w' => e = .returned (.int .i64 r) ∧ Below w.heap.size w w' := by
  have hu26 := Tryd.underlying26
  have HR0_0 := Aside0.mk hr0_0
  have HC0_0 := Aside0.mk hc0_0
  clear hr0_0 hc0_0
  have HR0_1 := Aside0.mk hr0_1
  have HC0_1 := Aside0.mk hc0_1
  clear hr0_1 hc0_1
  have HR0_2 := Aside0.mk hr0_2
  have HC0_2 := Aside0.mk hc0_2
  clear hr0_2 hc0_2
  have HR1 := Aside0.mk hr1
  have HC1 := Aside0.mk hc1
  clear hr1 hc1
  have HB := Aside0.mk (Below.refl w.heap.size w)
  have H : (wishbookref10_first.l0 k l1 (-1) 0 l0_0 l0_1 l0_2) = some r := h
  clear h
  have H' := Aside0.mk H
  clear H
  go_enter Tryd.func74, Tryd.ntmps74
  go_wp2_with (first | ((with_reducible refine gate_dst (N := 2) rfl ?_); refine box_event ?hg (N := 2) ?hd (cs := #[.slice A0_0 l0_0.length c0_0, .slice A0_1 l0_1.length c0_1, .slice A0_2 l0_2.length c0_2]) (t := 26) ?hr ?_; (case hd => rfl); (case hg => rfl); (case hr => first | (go_simp; done) | (go_simp; rfl)); intro gb266 hg w3 hbox hb; have n0_ := Aside0.mk (below_step (by repeat (first | (with_reducible first | exact HB.out | apply below_alloc | apply pw_below_drewN | apply below_drew1) | exact HB.out)) hb); have n1_ := Aside0.mk (hbox); have n2_ := Aside0.mk ((by rw [hg]; exact (below_size (by repeat (first | (with_reducible first | exact HB.out | apply below_alloc | apply pw_below_drewN | apply below_drew1) | exact HB.out))) : w.heap.size ≤ gb266)); have n3_ := Aside0.mk ((by rw [hg]; exact (below_size (by repeat (first | (with_reducible first | exact HB.out | apply below_alloc | apply pw_below_drewN | apply below_drew1) | exact HB.out))) : w.heap.size ≤ gb266)); clear HB; have HB := n0_; have BK266 := n1_; have GW266 := n2_; have GE266 := n3_; clear n0_ n1_ n2_ n3_; clear hb hbox hg))
  repeat (go_quiet (first | ((with_reducible refine gate_dst (N := 2) rfl ?_); refine box_event ?hg (N := 2) ?hd (cs := #[.slice A0_0 l0_0.length c0_0, .slice A0_1 l0_1.length c0_1, .slice A0_2 l0_2.length c0_2]) (t := 26) ?hr ?_; (case hd => rfl); (case hg => rfl); (case hr => first | (go_simp; done) | (go_simp; rfl)); intro gb266 hg w3 hbox hb; have n0_ := Aside0.mk (below_step (by repeat (first | (with_reducible first | exact HB.out | apply below_alloc | apply pw_below_drewN | apply below_drew1) | exact HB.out)) hb); have n1_ := Aside0.mk (hbox); have n2_ := Aside0.mk ((by rw [hg]; exact (below_size (by repeat (first | (with_reducible first | exact HB.out | apply below_alloc | apply pw_below_drewN | apply below_drew1) | exact HB.out))) : w.heap.size ≤ gb266)); have n3_ := Aside0.mk ((by rw [hg]; exact (below_size (by repeat (first | (with_reducible first | exact HB.out | apply below_alloc | apply pw_below_drewN | apply below_drew1) | exact HB.out))) : w.heap.size ≤ gb266)); clear HB; have HB := n0_; have BK266 := n1_; have GW266 := n2_; have GE266 := n3_; clear n0_ n1_ n2_ n3_; clear hb hbox hg)); try go_wp2_with (first | ((with_reducible refine gate_dst (N := 2) rfl ?_); refine box_event ?hg (N := 2) ?hd (cs := #[.slice A0_0 l0_0.length c0_0, .slice A0_1 l0_1.length c0_1, .slice A0_2 l0_2.length c0_2]) (t := 26) ?hr ?_; (case hd => rfl); (case hg => rfl); (case hr => first | (go_simp; done) | (go_simp; rfl)); intro gb266 hg w3 hbox hb; have n0_ := Aside0.mk (below_step (by repeat (first | (with_reducible first | exact HB.out | apply below_alloc | apply pw_below_drewN | apply below_drew1) | exact HB.out)) hb); have n1_ := Aside0.mk (hbox); have n2_ := Aside0.mk ((by rw [hg]; exact (below_size (by repeat (first | (with_reducible first | exact HB.out | apply below_alloc | apply pw_below_drewN | apply below_drew1) | exact HB.out))) : w.heap.size ≤ gb266)); have n3_ := Aside0.mk ((by rw [hg]; exact (below_size (by repeat (first | (with_reducible first | exact HB.out | apply below_alloc | apply pw_below_drewN | apply below_drew1) | exact HB.out))) : w.heap.size ≤ gb266)); clear HB; have HB := n0_; have BK266 := n1_; have GW266 := n2_; have GE266 := n3_; clear n0_ n1_ n2_ n3_; clear hb hbox hg)))
  go_loopg [5, 6] k (fun kq v5 v6 w' => ∃ (x5_1 : Int) (x6_1 : Int), v5 = .int .i64 x5_1 ∧ v6 = .int .i64 x6_1 ∧ Aside0 (wishbookref10_first.l0 kq l1 x5_1 x6_1 l0_0 l0_1 l0_2 = some r) ∧ Aside0 (kq ≤ k) ∧ Aside0 (w'.heap[gb266]? = some (.cells #[(.slice A0_0 l0_0.length c0_0), (.slice A0_1 l0_1.length c0_1), (.slice A0_2 l0_2.length c0_2)] 26 (0, 0))) ∧ Aside0 (Below w.heap.size w w'))
  case atStart => exact ⟨((-1)), (0), (by first | rfl | (simp; done) | (simp [*]; done)), (by first | rfl | (simp; done) | (simp [*]; done)), H', ⟨Nat.le_refl _⟩, ⟨by (with_reducible repeat (first | refine blk_drewN ?_ _ | refine blk_drew ?_ | refine blk_alloc ?_ _)); exact BK266.out⟩, ⟨by repeat (first | (with_reducible first | exact HB.out | apply below_alloc | apply pw_below_drewN | apply below_drew1 | refine below_set ?_ GE266.out) | exact HB.out)⟩⟩
  case round =>
    clear H'
    try clear c1
    try clear p2
    obtain ⟨x5_1, x6_1, rfl, rfl, HA, HK1, BK266, HB⟩ := hrel
    cases gk with
    | zero => exact absurd HA.out (by simp [wishbookref10_first.l0])
    | succ k1 =>
      have H := HA.out
      clear HA
      simp only [wishbookref10_first.l0] at H
      by_cases c4 : x6_1 < (l1.length : Int)
      · rw [if_pos c4] at H
        have c4b0 : decide (x6_1 < (l1.length : Int)) = true := decide_eq_true c4
        clear c4
        by_cases c5 : 0 ≤ x6_1
        · rw [if_pos c5] at H
          have c5b0 : decide (0 ≤ x6_1) = true := decide_eq_true c5
          clear c5
          by_cases c6 : (rd l1 x6_1) > 0
          · rw [if_pos c6] at H
            have c6b0 : decide (0 < (rd l1 x6_1)) = true := decide_eq_true c6
            clear c6
            by_cases c7 : x5_1 < 0
            · rw [if_pos c7] at H
              have c7b0 : decide (x5_1 < 0) = true := decide_eq_true c7
              clear c7
              have H' := Aside0.mk H
              clear H
              have p267 : 0 ≤ (x6_1 : Int) := of_decide_eq_true (by first | (with_reducible assumption) | assumption)
              have q267 : x6_1 < (l1.length : Int) := of_decide_eq_true (by first | (with_reducible assumption) | assumption)
              obtain ⟨ad267, e267, hx267_0⟩ := Kd.at_int HR1.out x6_1 p267 q267
              cases e267
              replace hx267_0 := (HB.out.cell (World.block_lt_of_cell? w _ hx267_0)).trans hx267_0
              replace p267 := eq_true p267
              replace q267 := eq_true q267
              go_wp2
              repeat (go_quiet (fail); try go_wp2)
              go_roundg k1
              case measure => have := HK1.out; omega
              case rel => exact ⟨(x6_1), (wrap64 (x6_1 + 1)), (by first | rfl | (simp; done) | (simp [*]; done)), (by first | rfl | (simp; done) | (simp [*]; done)), H', ⟨by have := HK1.out; omega⟩, ⟨by (with_reducible repeat (first | refine blk_drewN ?_ _ | refine blk_drew ?_ | refine blk_alloc ?_ _)); exact BK266.out⟩, ⟨by repeat (first | (with_reducible first | exact HB.out | apply below_alloc | apply pw_below_drewN | apply below_drew1 | refine below_set ?_ GE266.out) | exact HB.out)⟩⟩
            · rw [if_neg c7] at H
              have c7b0 : decide (x5_1 < 0) = false := decide_eq_false c7
              clear c7
              by_cases c8 : x6_1 < (l0_1.length : Int)
              · rw [if_pos c8] at H
                have c8b0 : decide (x6_1 < (l0_1.length : Int)) = true := decide_eq_true c8
                clear c8
                by_cases c9 : 0 ≤ x5_1
                · rw [if_pos c9] at H
                  have c9b0 : decide (0 ≤ x5_1) = true := decide_eq_true c9
                  clear c9
                  by_cases c10 : x5_1 < (l0_1.length : Int)
                  · rw [if_pos c10] at H
                    have c10b0 : decide (x5_1 < (l0_1.length : Int)) = true := decide_eq_true c10
                    clear c10
                    by_cases c11 : ((rd_T47 l0_1 x6_1).f3) < ((rd_T47 l0_1 x5_1).f3)
                    · rw [if_pos c11] at H
                      have c11b0 : decide (((rd_T47 l0_1 x6_1).f3) < ((rd_T47 l0_1 x5_1).f3)) = true := decide_eq_true c11
                      clear c11
                      have H' := Aside0.mk H
                      clear H
                      have p267 : 0 ≤ (x6_1 : Int) := of_decide_eq_true (by first | (with_reducible assumption) | assumption)
                      have q267 : x6_1 < (l1.length : Int) := of_decide_eq_true (by first | (with_reducible assumption) | assumption)
                      obtain ⟨ad267, e267, hx267_0⟩ := Kd.at_int HR1.out x6_1 p267 q267
                      cases e267
                      replace hx267_0 := (HB.out.cell (World.block_lt_of_cell? w _ hx267_0)).trans hx267_0
                      replace p267 := eq_true p267
                      replace q267 := eq_true q267
                      have hcz12_0 : wr.cell? ⟨gb266, 0, none⟩ = some (.slice A0_0 l0_0.length c0_0) := (blk_cell BK266.out 0).trans rfl
                      have hcz12_1 : wr.cell? ⟨gb266, 1, none⟩ = some (.slice A0_1 l0_1.length c0_1) := (blk_cell BK266.out 1).trans rfl
                      have hcz12_2 : wr.cell? ⟨gb266, 2, none⟩ = some (.slice A0_2 l0_2.length c0_2) := (blk_cell BK266.out 2).trans rfl
                      have hfz12_0 := blk_frozen BK266.out 0
                      have hfz12_1 := blk_frozen BK266.out 1
                      have hfz12_2 := blk_frozen BK266.out 2
                      have p268 : 0 ≤ (x6_1 : Int) := of_decide_eq_true (by first | (with_reducible assumption) | assumption)
                      have q268 : x6_1 < (l0_1.length : Int) := of_decide_eq_true (by first | (with_reducible assumption) | assumption)
                      obtain ⟨ad268, e268, hx268_0, hx268_1, hx268_2, hx268_3, hx268_4⟩ := at_T47 HR0_1.out x6_1 p268 q268
                      cases e268
                      replace hx268_0 := (HB.out.cell (World.block_lt_of_cell? w _ hx268_0)).trans hx268_0
                      replace hx268_1 := (HB.out.cell (World.block_lt_of_cell? w _ hx268_1)).trans hx268_1
                      replace hx268_2 := (HB.out.cell (World.block_lt_of_cell? w _ hx268_2)).trans hx268_2
                      replace hx268_3 := (HB.out.cell (World.block_lt_of_cell? w _ hx268_3)).trans hx268_3
                      replace hx268_4 := (HB.out.cell (World.block_lt_of_cell? w _ hx268_4)).trans hx268_4
                      replace p268 := eq_true p268
                      replace q268 := eq_true q268
                      have p269 : 0 ≤ (x5_1 : Int) := of_decide_eq_true (by first | (with_reducible assumption) | assumption)
                      have q269 : x5_1 < (l0_1.length : Int) := of_decide_eq_true (by first | (with_reducible assumption) | assumption)
                      obtain ⟨ad269, e269, hx269_0, hx269_1, hx269_2, hx269_3, hx269_4⟩ := at_T47 HR0_1.out x5_1 p269 q269
                      obtain rfl : ad268 = ad269 := (by injection e269)
                      replace hx269_0 := (HB.out.cell (World.block_lt_of_cell? w _ hx269_0)).trans hx269_0
                      replace hx269_1 := (HB.out.cell (World.block_lt_of_cell? w _ hx269_1)).trans hx269_1
                      replace hx269_2 := (HB.out.cell (World.block_lt_of_cell? w _ hx269_2)).trans hx269_2
                      replace hx269_3 := (HB.out.cell (World.block_lt_of_cell? w _ hx269_3)).trans hx269_3
                      replace hx269_4 := (HB.out.cell (World.block_lt_of_cell? w _ hx269_4)).trans hx269_4
                      replace p269 := eq_true p269
                      replace q269 := eq_true q269
                      go_wp2
                      repeat (go_quiet (fail); try go_wp2)
                      go_roundg k1
                      case measure => have := HK1.out; omega
                      case rel => exact ⟨(x6_1), (wrap64 (x6_1 + 1)), (by first | rfl | (simp; done) | (simp [*]; done)), (by first | rfl | (simp; done) | (simp [*]; done)), H', ⟨by have := HK1.out; omega⟩, ⟨by (with_reducible repeat (first | refine blk_drewN ?_ _ | refine blk_drew ?_ | refine blk_alloc ?_ _)); exact BK266.out⟩, ⟨by repeat (first | (with_reducible first | exact HB.out | apply below_alloc | apply pw_below_drewN | apply below_drew1 | refine below_set ?_ GE266.out) | exact HB.out)⟩⟩
                    · rw [if_neg c11] at H
                      have c11b0 : decide (((rd_T47 l0_1 x6_1).f3) < ((rd_T47 l0_1 x5_1).f3)) = false := decide_eq_false c11
                      clear c11
                      have H' := Aside0.mk H
                      clear H
                      have p267 : 0 ≤ (x6_1 : Int) := of_decide_eq_true (by first | (with_reducible assumption) | assumption)
                      have q267 : x6_1 < (l1.length : Int) := of_decide_eq_true (by first | (with_reducible assumption) | assumption)
                      obtain ⟨ad267, e267, hx267_0⟩ := Kd.at_int HR1.out x6_1 p267 q267
                      cases e267
                      replace hx267_0 := (HB.out.cell (World.block_lt_of_cell? w _ hx267_0)).trans hx267_0
                      replace p267 := eq_true p267
                      replace q267 := eq_true q267
                      have hcz13_0 : wr.cell? ⟨gb266, 0, none⟩ = some (.slice A0_0 l0_0.length c0_0) := (blk_cell BK266.out 0).trans rfl
                      have hcz13_1 : wr.cell? ⟨gb266, 1, none⟩ = some (.slice A0_1 l0_1.length c0_1) := (blk_cell BK266.out 1).trans rfl
                      have hcz13_2 : wr.cell? ⟨gb266, 2, none⟩ = some (.slice A0_2 l0_2.length c0_2) := (blk_cell BK266.out 2).trans rfl
                      have hfz13_0 := blk_frozen BK266.out 0
                      have hfz13_1 := blk_frozen BK266.out 1
                      have hfz13_2 := blk_frozen BK266.out 2
                      have p268 : 0 ≤ (x6_1 : Int) := of_decide_eq_true (by first | (with_reducible assumption) | assumption)
                      have q268 : x6_1 < (l0_1.length : Int) := of_decide_eq_true (by first | (with_reducible assumption) | assumption)
                      obtain ⟨ad268, e268, hx268_0, hx268_1, hx268_2, hx268_3, hx268_4⟩ := at_T47 HR0_1.out x6_1 p268 q268
                      cases e268
                      replace hx268_0 := (HB.out.cell (World.block_lt_of_cell? w _ hx268_0)).trans hx268_0
                      replace hx268_1 := (HB.out.cell (World.block_lt_of_cell? w _ hx268_1)).trans hx268_1
                      replace hx268_2 := (HB.out.cell (World.block_lt_of_cell? w _ hx268_2)).trans hx268_2
                      replace hx268_3 := (HB.out.cell (World.block_lt_of_cell? w _ hx268_3)).trans hx268_3
                      replace hx268_4 := (HB.out.cell (World.block_lt_of_cell? w _ hx268_4)).trans hx268_4
                      replace p268 := eq_true p268
                      replace q268 := eq_true q268
                      have p269 : 0 ≤ (x5_1 : Int) := of_decide_eq_true (by first | (with_reducible assumption) | assumption)
                      have q269 : x5_1 < (l0_1.length : Int) := of_decide_eq_true (by first | (with_reducible assumption) | assumption)
                      obtain ⟨ad269, e269, hx269_0, hx269_1, hx269_2, hx269_3, hx269_4⟩ := at_T47 HR0_1.out x5_1 p269 q269
                      obtain rfl : ad268 = ad269 := (by injection e269)
                      replace hx269_0 := (HB.out.cell (World.block_lt_of_cell? w _ hx269_0)).trans hx269_0
                      replace hx269_1 := (HB.out.cell (World.block_lt_of_cell? w _ hx269_1)).trans hx269_1
                      replace hx269_2 := (HB.out.cell (World.block_lt_of_cell? w _ hx269_2)).trans hx269_2
                      replace hx269_3 := (HB.out.cell (World.block_lt_of_cell? w _ hx269_3)).trans hx269_3
                      replace hx269_4 := (HB.out.cell (World.block_lt_of_cell? w _ hx269_4)).trans hx269_4
                      replace p269 := eq_true p269
                      replace q269 := eq_true q269
                      go_wp2
                      repeat (go_quiet (fail); try go_wp2)
                      go_roundg k1
                      case measure => have := HK1.out; omega
                      case rel => exact ⟨(x5_1), (wrap64 (x6_1 + 1)), (by first | rfl | (simp; done) | (simp [*]; done)), (by first | rfl | (simp; done) | (simp [*]; done)), H', ⟨by have := HK1.out; omega⟩, ⟨by (with_reducible repeat (first | refine blk_drewN ?_ _ | refine blk_drew ?_ | refine blk_alloc ?_ _)); exact BK266.out⟩, ⟨by repeat (first | (with_reducible first | exact HB.out | apply below_alloc | apply pw_below_drewN | apply below_drew1 | refine below_set ?_ GE266.out) | exact HB.out)⟩⟩
                  · rw [if_neg c10] at H
                    exact absurd H (by simp)
                · rw [if_neg c9] at H
                  exact absurd H (by simp)
              · rw [if_neg c8] at H
                exact absurd H (by simp)
          · rw [if_neg c6] at H
            have c6b0 : decide (0 < (rd l1 x6_1)) = false := decide_eq_false c6
            clear c6
            have H' := Aside0.mk H
            clear H
            have p267 : 0 ≤ (x6_1 : Int) := of_decide_eq_true (by first | (with_reducible assumption) | assumption)
            have q267 : x6_1 < (l1.length : Int) := of_decide_eq_true (by first | (with_reducible assumption) | assumption)
            obtain ⟨ad267, e267, hx267_0⟩ := Kd.at_int HR1.out x6_1 p267 q267
            cases e267
            replace hx267_0 := (HB.out.cell (World.block_lt_of_cell? w _ hx267_0)).trans hx267_0
            replace p267 := eq_true p267
            replace q267 := eq_true q267
            go_wp2
            repeat (go_quiet (fail); try go_wp2)
            go_roundg k1
            case measure => have := HK1.out; omega
            case rel => exact ⟨(x5_1), (wrap64 (x6_1 + 1)), (by first | rfl | (simp; done) | (simp [*]; done)), (by first | rfl | (simp; done) | (simp [*]; done)), H', ⟨by have := HK1.out; omega⟩, ⟨by (with_reducible repeat (first | refine blk_drewN ?_ _ | refine blk_drew ?_ | refine blk_alloc ?_ _)); exact BK266.out⟩, ⟨by repeat (first | (with_reducible first | exact HB.out | apply below_alloc | apply pw_below_drewN | apply below_drew1 | refine below_set ?_ GE266.out) | exact HB.out)⟩⟩
        · rw [if_neg c5] at H
          exact absurd H (by simp)
      · rw [if_neg c4] at H
        have c4b0 : decide (x6_1 < (l1.length : Int)) = false := decide_eq_false c4
        clear c4
        obtain rfl := Option.some.inj H
        go_wp2
        repeat (go_quiet (fail); try go_wp2)
        go_ret
        exact ⟨by first | rfl | (simp [errW_none, errW_some] <;> rfl) | (simp [*, errW_none, errW_some] <;> rfl), by repeat (first | (with_reducible first | exact HB.out | apply below_alloc | apply pw_below_drewN | apply below_drew1 | refine below_set ?_ GE266.out) | exact HB.out)⟩
end Go.Proofs.YtegpepnmnlockaaDoor.PL
namespace Go.Proofs.YtegpepnmnlockaaDoor.PL
open Go.RowKit Go.Proofs.YtegpepnmnlockaaDoorW.PrintWords Go.Proofs.YtegpepnmnlockaaDoorW.PrintLast Go.Proofs.YtegpepnmnlockaaDoorW.PrintMore
attribute [local go_sem] max2_int min2_int max_two min_two max_three min_three max_four min_four   -- for this text's walks alone
set_option linter.unusedVariables false
set_option linter.unusedSimpArgs false
mutual
def wishbookref10_given.l0 : Nat → Int → List (S59) → Int → List (S49) → List Int → Int → List Int → List (S47) → List (S57) → Option (Int)
  | 0, _, _, _, _, _, _, _, _, _ => none
  | k + 1, x1, x2, x7, x8, x10, x11, x271000, x271001, x271002 => if x11 < (x8.length : Int) then (if 0 ≤ x11 then (if x11 < (x271001.length : Int) then (if ((rd_T47 x271001 x11).f1) = x7 then (if x10.length < 17592186044416 then (wishbookref10_given.l0 k x1 x2 x7 x8 (x10 ++ [(rd_T49 x8 x11).f2]) (wrap64 (x11 + 1)) x271000 x271001 x271002) else (none)) else (if x10.length < 17592186044416 then (wishbookref10_given.l0 k x1 x2 x7 x8 (x10 ++ [0]) (wrap64 (x11 + 1)) x271000 x271001 x271002) else (none))) else (none)) else (none)) else (wishbookref10_given.l1 k x1 x2 x7 x10 0 x271000 x271001 x271002)
def wishbookref10_given.l1 : Nat → Int → List (S59) → Int → List Int → Int → List Int → List (S47) → List (S57) → Option (Int)
  | 0, _, _, _, _, _, _, _, _ => none
  | k + 1, x1, x2, x7, x10, x13, x271000, x271001, x271002 => if x13 ≤ 100 then (wishbookref10_given.l2 k x1 x2 x7 x10 x13 0 x271000 x271001 x271002) else (some (-1))
def wishbookref10_given.l2 : Nat → Int → List (S59) → Int → List Int → Int → Int → List Int → List (S47) → List (S57) → Option (Int)
  | 0, _, _, _, _, _, _, _, _, _ => none
  | k + 1, x1, x2, x7, x10, x13, x14, x271000, x271001, x271002 => if x14 < (x2.length : Int) then (if 0 ≤ x14 then (if x14 < (x271002.length : Int) then (if ((rd_T57 x271002 x14).f0) = x7 then (wishbookref10_given.j3 k x1 x2 x7 x10 x13 x14 (((rd_T59 x2 x14).f0) != x13) x271000 x271001 x271002) else (wishbookref10_given.j3 k x1 x2 x7 x10 x13 x14 true x271000 x271001 x271002)) else (none)) else (none)) else (wishbookref10_given.l1 k x1 x2 x7 x10 (wrap64 (x13 + 1)) x271000 x271001 x271002)
def wishbookref10_given.j3 : Nat → Int → List (S59) → Int → List Int → Int → Int → Bool → List Int → List (S47) → List (S57) → Option (Int)
  | 0, _, _, _, _, _, _, _, _, _, _ => none
  | k + 1, x1, x2, x7, x10, x13, x14, x77, x271000, x271001, x271002 => if x77 = true then (wishbookref10_given.l2 k x1 x2 x7 x10 x13 (wrap64 (x14 + 1)) x271000 x271001 x271002) else (wishbookref10_given.l3 k x1 x2 x7 x10 x13 x14 0 x271000 x271001 x271002)
def wishbookref10_given.l3 : Nat → Int → List (S59) → Int → List Int → Int → Int → Int → List Int → List (S47) → List (S57) → Option (Int)
  | 0, _, _, _, _, _, _, _, _, _, _ => none
  | k + 1, x1, x2, x7, x10, x13, x14, x15, x271000, x271001, x271002 => if 0 ≤ x14 then (if x14 < (x2.length : Int) then (if x15 < ((rd_T59 x2 x14).f1) then ((wishbookref10_first.f k x271000 x271001 x271002 x10).bind fun t289 => (if t289 ≥ 0 then (if 0 ≤ t289 then (if t289 < (x10.length : Int) then ((some (x10.set (t289 : Int).toNat (wrap64 ((rd x10 t289) - 1)) : List Int)).bind fun y291 => (if 0 ≤ x1 then (if x1 < (x10.length : Int) then (if (rd y291 x1) = 0 then (some x13) else (wishbookref10_given.l3 k x1 x2 x7 y291 x13 x14 (wrap64 (x15 + 1)) x271000 x271001 x271002)) else (none)) else (none))) else (none)) else (none)) else (if 0 ≤ x1 then (if x1 < (x10.length : Int) then (if (rd x10 x1) = 0 then (some x13) else (wishbookref10_given.l3 k x1 x2 x7 x10 x13 x14 (wrap64 (x15 + 1)) x271000 x271001 x271002)) else (none)) else (none)))) else (wishbookref10_given.l2 k x1 x2 x7 x10 x13 (wrap64 (x14 + 1)) x271000 x271001 x271002)) else (none)) else (none)
end
def wishbookref10_given.f (k : Nat) (l0_0 : List Int) (l0_1 : List (S47)) (l0_2 : List (S57)) (a1 : Int) (l2 : List (S59)) : Option (Int) := if 0 ≤ a1 then (if a1 < (l0_1.length : Int) then ((wishbookref10_served.f l0_0 l0_1 l0_2).bind fun bt272 => (wishbookref10_given.l0 k a1 l2 ((rd_T47 l0_1 a1).f1) bt272.1 ([] : List Int) 0 l0_0 l0_1 l0_2)) else (none)) else (none)
theorem wishbookref10_given.mono_l : ∀ k, (∀ y0 y1 y2 y3 y4 y5 y6 y7 y8, LeO (wishbookref10_given.l0 k y0 y1 y2 y3 y4 y5 y6 y7 y8) (wishbookref10_given.l0 (k + 1) y0 y1 y2 y3 y4 y5 y6 y7 y8)) ∧ (∀ y0 y1 y2 y3 y4 y5 y6 y7, LeO (wishbookref10_given.l1 k y0 y1 y2 y3 y4 y5 y6 y7) (wishbookref10_given.l1 (k + 1) y0 y1 y2 y3 y4 y5 y6 y7)) ∧ (∀ y0 y1 y2 y3 y4 y5 y6 y7 y8, LeO (wishbookref10_given.l2 k y0 y1 y2 y3 y4 y5 y6 y7 y8) (wishbookref10_given.l2 (k + 1) y0 y1 y2 y3 y4 y5 y6 y7 y8)) ∧ (∀ y0 y1 y2 y3 y4 y5 y6 y7 y8 y9, LeO (wishbookref10_given.j3 k y0 y1 y2 y3 y4 y5 y6 y7 y8 y9) (wishbookref10_given.j3 (k + 1) y0 y1 y2 y3 y4 y5 y6 y7 y8 y9)) ∧ (∀ y0 y1 y2 y3 y4 y5 y6 y7 y8 y9, LeO (wishbookref10_given.l3 k y0 y1 y2 y3 y4 y5 y6 y7 y8 y9) (wishbookref10_given.l3 (k + 1) y0 y1 y2 y3 y4 y5 y6 y7 y8 y9))
  | 0 => ⟨fun _ _ _ _ _ _ _ _ _ r h => by simp [wishbookref10_given.l0] at h, fun _ _ _ _ _ _ _ _ r h => by simp [wishbookref10_given.l1] at h, fun _ _ _ _ _ _ _ _ _ r h => by simp [wishbookref10_given.l2] at h, fun _ _ _ _ _ _ _ _ _ _ r h => by simp [wishbookref10_given.j3] at h, fun _ _ _ _ _ _ _ _ _ _ r h => by simp [wishbookref10_given.l3] at h⟩
  | k + 1 => by
    obtain ⟨ih0, ih1, ih2, ih3, ih4⟩ := wishbookref10_given.mono_l k
    refine ⟨?_, ?_, ?_, ?_, ?_⟩
    · intro y0 y1 y2 y3 y4 y5 y6 y7 y8
      unfold wishbookref10_given.l0
      repeat' first
      | (with_reducible exact ih0 _ _ _ _ _ _ _ _ _)
      | (with_reducible exact ih1 _ _ _ _ _ _ _ _)
      | (with_reducible exact ih2 _ _ _ _ _ _ _ _ _)
      | (with_reducible exact ih3 _ _ _ _ _ _ _ _ _ _)
      | (with_reducible exact ih4 _ _ _ _ _ _ _ _ _ _)
      | (with_reducible exact wishbookref10_first.mono _ _ _ _ _)
      | (with_reducible exact LeO.refl _)
      | (with_reducible exact LeO.none _)
      | (with_reducible refine LeO.ite ?_ ?_)
      | (with_reducible refine LeO.bind ?_ (fun _ => ?_))
      | exact ih0 _ _ _ _ _ _ _ _ _
      | exact ih1 _ _ _ _ _ _ _ _
      | exact ih2 _ _ _ _ _ _ _ _ _
      | exact ih3 _ _ _ _ _ _ _ _ _ _
      | exact ih4 _ _ _ _ _ _ _ _ _ _
      | exact wishbookref10_first.mono _ _ _ _ _
      | exact LeO.none _
      | refine LeO.ite ?_ ?_
      | refine LeO.bind ?_ (fun _ => ?_)
    · intro y0 y1 y2 y3 y4 y5 y6 y7
      unfold wishbookref10_given.l1
      repeat' first
      | (with_reducible exact ih0 _ _ _ _ _ _ _ _ _)
      | (with_reducible exact ih1 _ _ _ _ _ _ _ _)
      | (with_reducible exact ih2 _ _ _ _ _ _ _ _ _)
      | (with_reducible exact ih3 _ _ _ _ _ _ _ _ _ _)
      | (with_reducible exact ih4 _ _ _ _ _ _ _ _ _ _)
      | (with_reducible exact wishbookref10_first.mono _ _ _ _ _)
      | (with_reducible exact LeO.refl _)
      | (with_reducible exact LeO.none _)
      | (with_reducible refine LeO.ite ?_ ?_)
      | (with_reducible refine LeO.bind ?_ (fun _ => ?_))
      | exact ih0 _ _ _ _ _ _ _ _ _
      | exact ih1 _ _ _ _ _ _ _ _
      | exact ih2 _ _ _ _ _ _ _ _ _
      | exact ih3 _ _ _ _ _ _ _ _ _ _
      | exact ih4 _ _ _ _ _ _ _ _ _ _
      | exact wishbookref10_first.mono _ _ _ _ _
      | exact LeO.none _
      | refine LeO.ite ?_ ?_
      | refine LeO.bind ?_ (fun _ => ?_)
    · intro y0 y1 y2 y3 y4 y5 y6 y7 y8
      unfold wishbookref10_given.l2
      repeat' first
      | (with_reducible exact ih0 _ _ _ _ _ _ _ _ _)
      | (with_reducible exact ih1 _ _ _ _ _ _ _ _)
      | (with_reducible exact ih2 _ _ _ _ _ _ _ _ _)
      | (with_reducible exact ih3 _ _ _ _ _ _ _ _ _ _)
      | (with_reducible exact ih4 _ _ _ _ _ _ _ _ _ _)
      | (with_reducible exact wishbookref10_first.mono _ _ _ _ _)
      | (with_reducible exact LeO.refl _)
      | (with_reducible exact LeO.none _)
      | (with_reducible refine LeO.ite ?_ ?_)
      | (with_reducible refine LeO.bind ?_ (fun _ => ?_))
      | exact ih0 _ _ _ _ _ _ _ _ _
      | exact ih1 _ _ _ _ _ _ _ _
      | exact ih2 _ _ _ _ _ _ _ _ _
      | exact ih3 _ _ _ _ _ _ _ _ _ _
      | exact ih4 _ _ _ _ _ _ _ _ _ _
      | exact wishbookref10_first.mono _ _ _ _ _
      | exact LeO.none _
      | refine LeO.ite ?_ ?_
      | refine LeO.bind ?_ (fun _ => ?_)
    · intro y0 y1 y2 y3 y4 y5 y6 y7 y8 y9
      unfold wishbookref10_given.j3
      repeat' first
      | (with_reducible exact ih0 _ _ _ _ _ _ _ _ _)
      | (with_reducible exact ih1 _ _ _ _ _ _ _ _)
      | (with_reducible exact ih2 _ _ _ _ _ _ _ _ _)
      | (with_reducible exact ih3 _ _ _ _ _ _ _ _ _ _)
      | (with_reducible exact ih4 _ _ _ _ _ _ _ _ _ _)
      | (with_reducible exact wishbookref10_first.mono _ _ _ _ _)
      | (with_reducible exact LeO.refl _)
      | (with_reducible exact LeO.none _)
      | (with_reducible refine LeO.ite ?_ ?_)
      | (with_reducible refine LeO.bind ?_ (fun _ => ?_))
      | exact ih0 _ _ _ _ _ _ _ _ _
      | exact ih1 _ _ _ _ _ _ _ _
      | exact ih2 _ _ _ _ _ _ _ _ _
      | exact ih3 _ _ _ _ _ _ _ _ _ _
      | exact ih4 _ _ _ _ _ _ _ _ _ _
      | exact wishbookref10_first.mono _ _ _ _ _
      | exact LeO.none _
      | refine LeO.ite ?_ ?_
      | refine LeO.bind ?_ (fun _ => ?_)
    · intro y0 y1 y2 y3 y4 y5 y6 y7 y8 y9
      unfold wishbookref10_given.l3
      repeat' first
      | (with_reducible exact ih0 _ _ _ _ _ _ _ _ _)
      | (with_reducible exact ih1 _ _ _ _ _ _ _ _)
      | (with_reducible exact ih2 _ _ _ _ _ _ _ _ _)
      | (with_reducible exact ih3 _ _ _ _ _ _ _ _ _ _)
      | (with_reducible exact ih4 _ _ _ _ _ _ _ _ _ _)
      | (with_reducible exact wishbookref10_first.mono _ _ _ _ _)
      | (with_reducible exact LeO.refl _)
      | (with_reducible exact LeO.none _)
      | (with_reducible refine LeO.ite ?_ ?_)
      | (with_reducible refine LeO.bind ?_ (fun _ => ?_))
      | exact ih0 _ _ _ _ _ _ _ _ _
      | exact ih1 _ _ _ _ _ _ _ _
      | exact ih2 _ _ _ _ _ _ _ _ _
      | exact ih3 _ _ _ _ _ _ _ _ _ _
      | exact ih4 _ _ _ _ _ _ _ _ _ _
      | exact wishbookref10_first.mono _ _ _ _ _
      | exact LeO.none _
      | refine LeO.ite ?_ ?_
      | refine LeO.bind ?_ (fun _ => ?_)
theorem wishbookref10_given.mono : ∀ a0 a1 a2 a3 a4 k, LeO (wishbookref10_given.f k a0 a1 a2 a3 a4) (wishbookref10_given.f (k + 1) a0 a1 a2 a3 a4) := by
  intro a0 a1 a2 a3 a4 k
  obtain ⟨ih0, ih1, ih2, ih3, ih4⟩ := wishbookref10_given.mono_l k
  unfold wishbookref10_given.f
  repeat' first
      | (with_reducible exact ih0 _ _ _ _ _ _ _ _ _)
      | (with_reducible exact ih1 _ _ _ _ _ _ _ _)
      | (with_reducible exact ih2 _ _ _ _ _ _ _ _ _)
      | (with_reducible exact ih3 _ _ _ _ _ _ _ _ _ _)
      | (with_reducible exact ih4 _ _ _ _ _ _ _ _ _ _)
      | (with_reducible exact wishbookref10_first.mono _ _ _ _ _)
      | (with_reducible exact LeO.refl _)
      | (with_reducible exact LeO.none _)
      | (with_reducible refine LeO.ite ?_ ?_)
      | (with_reducible refine LeO.bind ?_ (fun _ => ?_))
      | exact ih0 _ _ _ _ _ _ _ _ _
      | exact ih1 _ _ _ _ _ _ _ _
      | exact ih2 _ _ _ _ _ _ _ _ _
      | exact ih3 _ _ _ _ _ _ _ _ _ _
      | exact ih4 _ _ _ _ _ _ _ _ _ _
      | exact wishbookref10_first.mono _ _ _ _ _
      | exact LeO.none _
      | refine LeO.ite ?_ ?_
      | refine LeO.bind ?_ (fun _ => ?_)
set_option maxHeartbeats 8000000 in
set_option maxRecDepth 100000 in
theorem wishbookref10_given.calls (k : Nat) (A0_0 : Option Addr) (c0_0 : Nat) (l0_0 : List Int) (A0_1 : Option Addr) (c0_1 : Nat) (l0_1 : List (S47)) (A0_2 : Option Addr) (c0_2 : Nat) (l0_2 : List (S57)) (a1 : Int) (A2 : Option Addr) (c2 : Nat) (l2 : List (S59)) (r : Int) (w : World) (hr0_0 : Kd.C (Kd.int .i64) w A0_0 l0_0.length l0_0) (hc0_0 : l0_0.length ≤ c0_0) (hr0_1 : Kd.C k47 w A0_1 l0_1.length l0_1) (hc0_1 : l0_1.length ≤ c0_1) (hr0_2 : Kd.C k57 w A0_2 l0_2.length l0_2) (hc0_2 : l0_2.length ≤ c0_2) (hr2 : Kd.C k59 w A2 l2.length l2) (hc2 : l2.length ≤ c2) (h : wishbookref10_given.f k l0_0 l0_1 l0_2 a1 l2 = some r) :
    Calls Tryd.prog 55 #[.agg #[.slice A0_0 l0_0.length c0_0, .slice A0_1 l0_1.length c0_1, .slice A0_2 l0_2.length c0_2], .int .i64 a1, .slice A2 l2.length c2] w fun e w' => e = .returned (.int .i64 r) ∧ Below w.heap.size w w' := by
  have hu26 := Tryd.underlying26
  have HR0_0 := Aside0.mk hr0_0
  have HC0_0 := Aside0.mk hc0_0
  clear hr0_0 hc0_0
  have HR0_1 := Aside0.mk hr0_1
  have HC0_1 := Aside0.mk hc0_1
  clear hr0_1 hc0_1
  have HR0_2 := Aside0.mk hr0_2
  have HC0_2 := Aside0.mk hc0_2
  clear hr0_2 hc0_2
  have HR2 := Aside0.mk hr2
  have HC2 := Aside0.mk hc2
  clear hr2 hc2
  have HB := Aside0.mk (Below.refl w.heap.size w)
  have H : (if 0 ≤ a1 then (if a1 < (l0_1.length : Int) then ((wishbookref10_served.f l0_0 l0_1 l0_2).bind fun bt272 => (wishbookref10_given.l0 k a1 l2 ((rd_T47 l0_1 a1).f1) bt272.1 ([] : List Int) 0 l0_0 l0_1 l0_2)) else (none)) else (none)) = some r := h
  clear h
  by_cases c4 : 0 ≤ a1
  · rw [if_pos c4] at H
    have c4b0 : decide (0 ≤ a1) = true := decide_eq_true c4
    clear c4
    by_cases c5 : a1 < (l0_1.length : Int)
    · rw [if_pos c5] at H
      have c5b0 : decide (a1 < (l0_1.length : Int)) = true := decide_eq_true c5
      clear c5
      replace H := Option.bind_eq_some_iff.mp H
      obtain ⟨⟨t272, t275⟩, A60, H⟩ := H
      replace H : (wishbookref10_given.l0 k a1 l2 ((rd_T47 l0_1 a1).f1) t272 ([] : List Int) 0 l0_0 l0_1 l0_2) = some r := H
      have A6 := Aside0.mk A60
      clear A60
      have H' := Aside0.mk H
      clear H
      go_enter Tryd.func55, Tryd.ntmps55
      go_wp2_with (first | ((with_reducible refine gate_dst (N := 3) rfl ?_); refine box_event ?hg (N := 3) ?hd (cs := #[.slice A0_0 l0_0.length c0_0, .slice A0_1 l0_1.length c0_1, .slice A0_2 l0_2.length c0_2]) (t := 26) ?hr ?_; (case hd => rfl); (case hg => rfl); (case hr => first | (go_simp; done) | (go_simp; rfl)); intro gb270 hg w7 hbox hb; have n0_ := Aside0.mk (below_step (by repeat (first | (with_reducible first | exact HB.out | apply below_alloc | apply pw_below_drewN | apply below_drew1) | exact HB.out)) hb); have n1_ := Aside0.mk (hbox); have n2_ := Aside0.mk ((by rw [hg]; exact (below_size (by repeat (first | (with_reducible first | exact HB.out | apply below_alloc | apply pw_below_drewN | apply below_drew1) | exact HB.out))) : w.heap.size ≤ gb270)); have n3_ := Aside0.mk ((by rw [hg]; exact (below_size (by repeat (first | (with_reducible first | exact HB.out | apply below_alloc | apply pw_below_drewN | apply below_drew1) | exact HB.out))) : w.heap.size ≤ gb270)); clear HB; have HB := n0_; have BK270 := n1_; have GW270 := n2_; have GE270 := n3_; clear n0_ n1_ n2_ n3_; clear hb hbox hg; have hcz8_0 : w7.cell? ⟨gb270, 0, none⟩ = some (.slice A0_0 l0_0.length c0_0) := (blk_cell BK270.out 0).trans rfl; have hcz8_1 : w7.cell? ⟨gb270, 1, none⟩ = some (.slice A0_1 l0_1.length c0_1) := (blk_cell BK270.out 1).trans rfl; have hcz8_2 : w7.cell? ⟨gb270, 2, none⟩ = some (.slice A0_2 l0_2.length c0_2) := (blk_cell BK270.out 2).trans rfl; have hfz8_0 := blk_frozen BK270.out 0; have hfz8_1 := blk_frozen BK270.out 1; have hfz8_2 := blk_frozen BK270.out 2; have p271 : 0 ≤ (a1 : Int) := of_decide_eq_true (by first | (with_reducible assumption) | assumption); have q271 : a1 < (l0_1.length : Int) := of_decide_eq_true (by first | (with_reducible assumption) | assumption); obtain ⟨ad271, e271, hx271_0, hx271_1, hx271_2, hx271_3, hx271_4⟩ := at_T47 HR0_1.out a1 p271 q271; cases e271; replace hx271_0 := (HB.out.cell (World.block_lt_of_cell? w _ hx271_0)).trans hx271_0; replace hx271_1 := (HB.out.cell (World.block_lt_of_cell? w _ hx271_1)).trans hx271_1; replace hx271_2 := (HB.out.cell (World.block_lt_of_cell? w _ hx271_2)).trans hx271_2; replace hx271_3 := (HB.out.cell (World.block_lt_of_cell? w _ hx271_3)).trans hx271_3; replace hx271_4 := (HB.out.cell (World.block_lt_of_cell? w _ hx271_4)).trans hx271_4; replace p271 := eq_true p271; replace q271 := eq_true q271) | ((with_reducible refine gate_callee (f := 48) rfl ?_); refine goesL_ (some 25) rfl rfl Tryd.func48 (by kernel_rfl) rfl #[.agg #[.slice A0_0 l0_0.length c0_0, .slice (some ad271) l0_1.length c0_1, .slice A0_2 l0_2.length c0_2]] rfl (by (try simp only [List.map_toArray, List.map_cons, List.map_nil]); first | done | rfl | (simp only [List.length_drop, List.length_take]; rfl)) ?_; (with_reducible refine (wishbookref10_served.calls _ _ l0_0 _ _ l0_1 _ _ l0_2 t272 t275 _ ?side1 ?side2 ?side3 ?side4 ?side5 ?side6 A6.out).mono ?_); (case side1 => repeat (first | exact (Kd.C_below HR0_0.out HB.out) | (with_reducible refine Kd.C_alloc ?_ _) | (with_reducible refine Kd.C_drewN ?_ _) | (with_reducible refine Kd.C_drew ?_))); (case side2 => exact HC0_0.out); (case side3 => repeat (first | exact (Kd.C_below HR0_1.out HB.out) | (with_reducible refine Kd.C_alloc ?_ _) | (with_reducible refine Kd.C_drewN ?_ _) | (with_reducible refine Kd.C_drew ?_))); (case side4 => exact HC0_1.out); (case side5 => repeat (first | exact (Kd.C_below HR0_2.out HB.out) | (with_reducible refine Kd.C_alloc ?_ _) | (with_reducible refine Kd.C_drewN ?_ _) | (with_reducible refine Kd.C_drew ?_))); (case side6 => exact HC0_2.out); rintro e w9 ⟨v273, v276, rfl, ho0, ho1, hb⟩; refine ⟨_, rfl, ?_⟩; have n0_ := Aside0.mk (Kd.R_lower ho0 (below_size (by repeat (first | (with_reducible first | exact HB.out | apply below_alloc | apply pw_below_drewN | apply below_drew1 | refine below_set ?_ GE270.out) | exact HB.out)))); have n1_ := Aside0.mk (Kd.R_lower ho1 (below_size (by repeat (first | (with_reducible first | exact HB.out | apply below_alloc | apply pw_below_drewN | apply below_drew1 | refine below_set ?_ GE270.out) | exact HB.out)))); have n2_ := Aside0.mk (blk_below (g := gb270) (o := .cells #[.slice A0_0 l0_0.length c0_0, .slice (some ad271) l0_1.length c0_1, .slice A0_2 l0_2.length c0_2] 26 (0, 0)) (by (with_reducible repeat (first | refine blk_drewN ?_ _ | refine blk_drew ?_ | refine blk_alloc ?_ _)); exact BK270.out) hb); have n3_ := Aside0.mk (below_step (by repeat (first | (with_reducible first | exact HB.out | apply below_alloc | apply pw_below_drewN | apply below_drew1 | refine below_set ?_ GE270.out) | exact HB.out)) hb); clear BK270; clear HB; have HO274 := n0_; have HO277 := n1_; have BK270 := n2_; have HB := n3_; clear n0_ n1_ n2_ n3_; (try clear hb); (try clear hb2); (try clear hk); (try clear hi); (try clear ho0); (try clear ho1)))
      go_loopg [10, 11] k (fun kq v10 v11 w' => ∃ (x10_1 : List Int) (x11_1 : Int), v11 = .int .i64 x11_1 ∧ Aside0 (wishbookref10_given.l0 kq a1 l2 ((rd_T47 l0_1 a1).f1) t272 x10_1 x11_1 l0_0 l0_1 l0_2 = some r) ∧ Aside0 (kq ≤ k) ∧ Aside0 (Kd.R k49 49 w' w.heap.size (fun _ => True) v273 t272) ∧ Aside0 (Kd.R (Kd.int .i64) 3 w' w.heap.size (fun _ => True) v10 x10_1) ∧ Aside0 (w'.heap[gb270]? = some (.cells #[(.slice A0_0 l0_0.length c0_0), (.slice (some ad271) l0_1.length c0_1), (.slice A0_2 l0_2.length c0_2)] 26 (0, 0))) ∧ Aside0 (Below w.heap.size w w'))
      case atStart => exact ⟨(([] : List Int)), (0), (by first | rfl | (simp; done) | (simp [*]; done)), H', ⟨Nat.le_refl _⟩, ⟨by (with_reducible repeat (first | apply Kd.R_alloc | apply Kd.R_drewN | apply Kd.R_drew)); exact HO274.out⟩, ⟨by first | exact Kd.R_nil _ _ _ _ _ | exact Kd.N_nil _ _ _ _ _ | exact Kd.V_nil _ _ _ _ _ | exact Kd.Q_nil _ _ _ _ _ | exact Kd.S_nil _ _ _ _ _⟩, ⟨by (with_reducible repeat (first | refine blk_drewN ?_ _ | refine blk_drew ?_ | refine blk_alloc ?_ _)); exact BK270.out⟩, ⟨by repeat (first | (with_reducible first | exact HB.out | apply below_alloc | apply pw_below_drewN | apply below_drew1 | refine below_set ?_ GE270.out) | exact HB.out)⟩⟩
      case round =>
        clear H'
        try clear c2
        try clear p2
        try clear q2
        try clear hx2
        try clear c4
        try clear c4b0
        try clear c5
        try clear c5b0
        try clear hcz8_0
        try clear hcz8_1
        try clear hcz8_2
        try clear hfz8_0
        try clear hfz8_1
        try clear hfz8_2
        try clear hx271_0
        try clear hx271_1
        try clear hx271_2
        try clear hx271_3
        try clear hx271_4
        try clear p271
        try clear q271
        obtain ⟨x10_1, x11_1, rfl, HA, HK1, HO_8, HO_10, BK270, HB⟩ := hrel
        cases gk with
        | zero => exact absurd HA.out (by simp [wishbookref10_given.l0])
        | succ k1 =>
          have H := HA.out
          clear HA
          simp only [wishbookref10_given.l0] at H
          by_cases c10 : x11_1 < (t272.length : Int)
          · rw [if_pos c10] at H
            have c10b0 : decide (x11_1 < (t272.length : Int)) = true := decide_eq_true c10
            clear c10
            by_cases c11 : 0 ≤ x11_1
            · rw [if_pos c11] at H
              have c11b0 : decide (0 ≤ x11_1) = true := decide_eq_true c11
              clear c11
              by_cases c12 : x11_1 < (l0_1.length : Int)
              · rw [if_pos c12] at H
                have c12b0 : decide (x11_1 < (l0_1.length : Int)) = true := decide_eq_true c12
                clear c12
                by_cases c13 : ((rd_T47 l0_1 x11_1).f1) = ((rd_T47 l0_1 a1).f1)
                · rw [if_pos c13] at H
                  have c13b0 : (((rd_T47 l0_1 x11_1).f1) == ((rd_T47 l0_1 a1).f1)) = true := beq_iff_eq.mpr c13
                  have c13b1 : (((rd_T47 l0_1 x11_1).f1) != ((rd_T47 l0_1 a1).f1)) = false := bne_eq_false_iff_eq.mpr c13
                  clear c13
                  by_cases c14 : x10_1.length < 17592186044416
                  · rw [if_pos c14] at H
                    have LMc14 := Aside0.mk c14
                    clear c14
                    obtain ⟨y280, hy280⟩ : ∃ y_ : List Int, y_ = (x10_1 ++ [(rd_T49 t272 x11_1).f2]) := ⟨_, rfl⟩
                    replace H : (wishbookref10_given.l0 k1 a1 l2 ((rd_T47 l0_1 a1).f1) t272 y280 (wrap64 (x11_1 + 1)) l0_0 l0_1 l0_2) = some r := by first | (rw [hy280]; with_reducible exact H) | (have H2_ := (Option.bind_some _ _).symm.trans H; rw [hy280]; with_reducible exact H2_) | (have H2_ := (Option.bind_some _ _).symm.trans H; with_reducible exact H2_) | with_reducible exact H | (rw [hy280]; exact H) | exact H
                    have Ny280 := Aside0.mk hy280
                    clear hy280
                    have H' := Aside0.mk H
                    clear H
                    obtain ⟨Ao15, co15, eo15⟩ := Kd.R_slice HO_8.out
                    subst eo15
                    have hcz16_0 : wr.cell? ⟨gb270, 0, none⟩ = some (.slice A0_0 l0_0.length c0_0) := (blk_cell BK270.out 0).trans rfl
                    have hcz16_1 : wr.cell? ⟨gb270, 1, none⟩ = some (.slice (some ad271) l0_1.length c0_1) := (blk_cell BK270.out 1).trans rfl
                    have hcz16_2 : wr.cell? ⟨gb270, 2, none⟩ = some (.slice A0_2 l0_2.length c0_2) := (blk_cell BK270.out 2).trans rfl
                    have hfz16_0 := blk_frozen BK270.out 0
                    have hfz16_1 := blk_frozen BK270.out 1
                    have hfz16_2 := blk_frozen BK270.out 2
                    have p278 : 0 ≤ (x11_1 : Int) := of_decide_eq_true (by first | (with_reducible assumption) | assumption)
                    have q278 : x11_1 < (l0_1.length : Int) := of_decide_eq_true (by first | (with_reducible assumption) | assumption)
                    obtain ⟨ad278, e278, hx278_0, hx278_1, hx278_2, hx278_3, hx278_4⟩ := at_T47 HR0_1.out x11_1 p278 q278
                    obtain rfl : ad271 = ad278 := (by injection e278)
                    replace hx278_0 := (HB.out.cell (World.block_lt_of_cell? w _ hx278_0)).trans hx278_0
                    replace hx278_1 := (HB.out.cell (World.block_lt_of_cell? w _ hx278_1)).trans hx278_1
                    replace hx278_2 := (HB.out.cell (World.block_lt_of_cell? w _ hx278_2)).trans hx278_2
                    replace hx278_3 := (HB.out.cell (World.block_lt_of_cell? w _ hx278_3)).trans hx278_3
                    replace hx278_4 := (HB.out.cell (World.block_lt_of_cell? w _ hx278_4)).trans hx278_4
                    replace p278 := eq_true p278
                    replace q278 := eq_true q278
                    have p279 : 0 ≤ (x11_1 : Int) := of_decide_eq_true (by first | (with_reducible assumption) | assumption)
                    have q279 : x11_1 < (t272.length : Int) := of_decide_eq_true (by first | (with_reducible assumption) | assumption)
                    obtain ⟨ad279, e279, hx279_0, hx279_1, hx279_2, hx279_3⟩ := at_T49 (Kd.R_reads' HO_8.out).2.2 x11_1 p279 q279
                    cases e279
                    replace p279 := eq_true p279
                    replace q279 := eq_true q279
                    go_wp2_with (first | ((with_reducible refine gate_builtin (b := .append) (xs := #[.tmp 47, .tmp 49]) rfl ?_); at_builtin; refine Kd.R_append (Kd.int .i64) (w0 := w) w.heap.size rfl (.tmp 47) (.tmp 49) 22 3 (.int .i64 0) 8 rfl Tryd.underlying22 info3 rfl (by decide) (by omega) u10 x10_1 ((rd_T49 t272 x11_1).f2) [.int .i64 ((rd_T49 t272 x11_1).f2)] (fun _ => True) (fun _ => False) rfl rfl ?aP (fun _ hk => hk.elim) ?aF ?aO ?aB ?aS ?aL ?_; (case aP => exact rfl); (case aB => exact (by repeat (first | (with_reducible first | exact HB.out | apply below_alloc | apply pw_below_drewN | apply below_drew1 | refine below_set ?_ GE270.out) | exact HB.out))); (case aF => exact (fun _ _ => trivial)); (case aO => exact (by (with_reducible repeat (first | apply Kd.R_alloc | apply Kd.R_drewN | apply Kd.R_drew)); exact HO_10.out)); (case aS => exact (below_size (by repeat (first | (with_reducible first | exact HB.out | apply below_alloc | apply pw_below_drewN | apply below_drew1 | refine below_set ?_ GE270.out) | exact HB.out)))); (case aL => have := LMc14.out; omega); intro v281 w17 ho hb hg hat; rw [← Ny280.out] at ho; have n0_ := Aside0.mk (Kd.R_over' (by (with_reducible repeat (first | apply Kd.R_alloc | apply Kd.R_drewN | apply Kd.R_drew)); exact HO_8.out) (Kd.R_typed (by (with_reducible repeat (first | apply Kd.R_alloc | apply Kd.R_drewN | apply Kd.R_drew)); exact HO_10.out)) (by decide) hg); have n1_ := Aside0.mk (blk_grown (g := gb270) (o := .cells #[.slice A0_0 l0_0.length c0_0, .slice (some ad271) l0_1.length c0_1, .slice A0_2 l0_2.length c0_2] 26 (0, 0)) (by (with_reducible repeat (first | refine blk_drewN ?_ _ | refine blk_drew ?_ | refine blk_alloc ?_ _)); exact BK270.out) hg (Kd.R_ne HO_10.out BK270.out (by decide))); have n2_ := Aside0.mk (hb); have n3_ := Aside0.mk (ho); clear HO_8; clear BK270; clear HB; clear HO_10; have HO_8 := n0_; have BK270 := n1_; have HB := n2_; have HO282 := n3_; clear n0_ n1_ n2_ n3_; clear ho hb hg hat))
                    go_roundg k1
                    case measure => have := HK1.out; omega
                    case rel => exact ⟨(y280), (wrap64 (x11_1 + 1)), (by first | rfl | (simp; done) | (simp [*]; done)), H', ⟨by have := HK1.out; omega⟩, ⟨by (with_reducible repeat (first | apply Kd.R_alloc | apply Kd.R_drewN | apply Kd.R_drew)); exact HO_8.out⟩, ⟨by (with_reducible repeat (first | apply Kd.R_alloc | apply Kd.R_drewN | apply Kd.R_drew)); exact HO282.out⟩, ⟨by (with_reducible repeat (first | refine blk_drewN ?_ _ | refine blk_drew ?_ | refine blk_alloc ?_ _)); exact BK270.out⟩, ⟨by repeat (first | (with_reducible first | exact HB.out | apply below_alloc | apply pw_below_drewN | apply below_drew1 | refine below_set ?_ GE270.out) | exact HB.out)⟩⟩
                  · rw [if_neg c14] at H
                    exact absurd H (by simp)
                · rw [if_neg c13] at H
                  have c13b0 : (((rd_T47 l0_1 x11_1).f1) == ((rd_T47 l0_1 a1).f1)) = false := beq_eq_false_iff_ne.mpr c13
                  have c13b1 : (((rd_T47 l0_1 x11_1).f1) != ((rd_T47 l0_1 a1).f1)) = true := bne_iff_ne.mpr c13
                  by_cases c18 : x10_1.length < 17592186044416
                  · rw [if_pos c18] at H
                    have LMc18 := Aside0.mk c18
                    clear c18
                    obtain ⟨y283, hy283⟩ : ∃ y_ : List Int, y_ = (x10_1 ++ [0]) := ⟨_, rfl⟩
                    replace H : (wishbookref10_given.l0 k1 a1 l2 ((rd_T47 l0_1 a1).f1) t272 y283 (wrap64 (x11_1 + 1)) l0_0 l0_1 l0_2) = some r := by first | (rw [hy283]; with_reducible exact H) | (have H2_ := (Option.bind_some _ _).symm.trans H; rw [hy283]; with_reducible exact H2_) | (have H2_ := (Option.bind_some _ _).symm.trans H; with_reducible exact H2_) | with_reducible exact H | (rw [hy283]; exact H) | exact H
                    have Ny283 := Aside0.mk hy283
                    clear hy283
                    have H' := Aside0.mk H
                    clear H
                    obtain ⟨Ao19, co19, eo19⟩ := Kd.R_slice HO_8.out
                    subst eo19
                    have hcz20_0 : wr.cell? ⟨gb270, 0, none⟩ = some (.slice A0_0 l0_0.length c0_0) := (blk_cell BK270.out 0).trans rfl
                    have hcz20_1 : wr.cell? ⟨gb270, 1, none⟩ = some (.slice (some ad271) l0_1.length c0_1) := (blk_cell BK270.out 1).trans rfl
                    have hcz20_2 : wr.cell? ⟨gb270, 2, none⟩ = some (.slice A0_2 l0_2.length c0_2) := (blk_cell BK270.out 2).trans rfl
                    have hfz20_0 := blk_frozen BK270.out 0
                    have hfz20_1 := blk_frozen BK270.out 1
                    have hfz20_2 := blk_frozen BK270.out 2
                    have p278 : 0 ≤ (x11_1 : Int) := of_decide_eq_true (by first | (with_reducible assumption) | assumption)
                    have q278 : x11_1 < (l0_1.length : Int) := of_decide_eq_true (by first | (with_reducible assumption) | assumption)
                    obtain ⟨ad278, e278, hx278_0, hx278_1, hx278_2, hx278_3, hx278_4⟩ := at_T47 HR0_1.out x11_1 p278 q278
                    obtain rfl : ad271 = ad278 := (by injection e278)
                    replace hx278_0 := (HB.out.cell (World.block_lt_of_cell? w _ hx278_0)).trans hx278_0
                    replace hx278_1 := (HB.out.cell (World.block_lt_of_cell? w _ hx278_1)).trans hx278_1
                    replace hx278_2 := (HB.out.cell (World.block_lt_of_cell? w _ hx278_2)).trans hx278_2
                    replace hx278_3 := (HB.out.cell (World.block_lt_of_cell? w _ hx278_3)).trans hx278_3
                    replace hx278_4 := (HB.out.cell (World.block_lt_of_cell? w _ hx278_4)).trans hx278_4
                    replace p278 := eq_true p278
                    replace q278 := eq_true q278
                    go_wp2_with (first | ((with_reducible refine gate_builtin (b := .append) (xs := #[.tmp 47, .tmp 49]) rfl ?_); at_builtin; refine Kd.R_append (Kd.int .i64) (w0 := w) w.heap.size rfl (.tmp 47) (.tmp 49) 22 3 (.int .i64 0) 8 rfl Tryd.underlying22 info3 rfl (by decide) (by omega) u10 x10_1 0 [.int .i64 0] (fun _ => True) (fun _ => False) rfl rfl ?aP (fun _ hk => hk.elim) ?aF ?aO ?aB ?aS ?aL ?_; (case aP => exact rfl); (case aB => exact (by repeat (first | (with_reducible first | exact HB.out | apply below_alloc | apply pw_below_drewN | apply below_drew1 | refine below_set ?_ GE270.out) | exact HB.out))); (case aF => exact (fun _ _ => trivial)); (case aO => exact (by (with_reducible repeat (first | apply Kd.R_alloc | apply Kd.R_drewN | apply Kd.R_drew)); exact HO_10.out)); (case aS => exact (below_size (by repeat (first | (with_reducible first | exact HB.out | apply below_alloc | apply pw_below_drewN | apply below_drew1 | refine below_set ?_ GE270.out) | exact HB.out)))); (case aL => have := LMc18.out; omega); intro v284 w21 ho hb hg hat; rw [← Ny283.out] at ho; have n0_ := Aside0.mk (Kd.R_over' (by (with_reducible repeat (first | apply Kd.R_alloc | apply Kd.R_drewN | apply Kd.R_drew)); exact HO_8.out) (Kd.R_typed (by (with_reducible repeat (first | apply Kd.R_alloc | apply Kd.R_drewN | apply Kd.R_drew)); exact HO_10.out)) (by decide) hg); have n1_ := Aside0.mk (blk_grown (g := gb270) (o := .cells #[.slice A0_0 l0_0.length c0_0, .slice (some ad271) l0_1.length c0_1, .slice A0_2 l0_2.length c0_2] 26 (0, 0)) (by (with_reducible repeat (first | refine blk_drewN ?_ _ | refine blk_drew ?_ | refine blk_alloc ?_ _)); exact BK270.out) hg (Kd.R_ne HO_10.out BK270.out (by decide))); have n2_ := Aside0.mk (hb); have n3_ := Aside0.mk (ho); clear HO_8; clear BK270; clear HB; clear HO_10; have HO_8 := n0_; have BK270 := n1_; have HB := n2_; have HO285 := n3_; clear n0_ n1_ n2_ n3_; clear ho hb hg hat))
                    go_roundg k1
                    case measure => have := HK1.out; omega
                    case rel => exact ⟨(y283), (wrap64 (x11_1 + 1)), (by first | rfl | (simp; done) | (simp [*]; done)), H', ⟨by have := HK1.out; omega⟩, ⟨by (with_reducible repeat (first | apply Kd.R_alloc | apply Kd.R_drewN | apply Kd.R_drew)); exact HO_8.out⟩, ⟨by (with_reducible repeat (first | apply Kd.R_alloc | apply Kd.R_drewN | apply Kd.R_drew)); exact HO285.out⟩, ⟨by (with_reducible repeat (first | refine blk_drewN ?_ _ | refine blk_drew ?_ | refine blk_alloc ?_ _)); exact BK270.out⟩, ⟨by repeat (first | (with_reducible first | exact HB.out | apply below_alloc | apply pw_below_drewN | apply below_drew1 | refine below_set ?_ GE270.out) | exact HB.out)⟩⟩
                  · rw [if_neg c18] at H
                    exact absurd H (by simp)
              · rw [if_neg c12] at H
                exact absurd H (by simp)
            · rw [if_neg c11] at H
              exact absurd H (by simp)
          · rw [if_neg c10] at H
            have c10b0 : decide (x11_1 < (t272.length : Int)) = false := decide_eq_false c10
            clear c10
            have H' := Aside0.mk H
            clear H
            obtain ⟨Ao22, co22, eo22⟩ := Kd.R_slice HO_8.out
            subst eo22
            go_wp2
            go_loopg [13] k1 (fun kq v13 w' => ∃ (x10_2 : List Int) (x13_2 : Int), v13 = .int .i64 x13_2 ∧ Aside0 (wishbookref10_given.l1 kq a1 l2 ((rd_T47 l0_1 a1).f1) x10_2 x13_2 l0_0 l0_1 l0_2 = some r) ∧ Aside0 (kq ≤ k1) ∧ Aside0 (Kd.R (Kd.int .i64) 3 w' w.heap.size (fun _ => True) u10 x10_2) ∧ Aside0 (w'.heap[gb270]? = some (.cells #[(.slice A0_0 l0_0.length c0_0), (.slice (some ad271) l0_1.length c0_1), (.slice A0_2 l0_2.length c0_2)] 26 (0, 0))) ∧ Aside0 (Below w.heap.size w w'))
            case atStart => exact ⟨(x10_1), (0), (by first | rfl | (simp; done) | (simp [*]; done)), H', ⟨Nat.le_refl _⟩, ⟨by (with_reducible repeat (first | apply Kd.R_alloc | apply Kd.R_drewN | apply Kd.R_drew)); exact HO_10.out⟩, ⟨by (with_reducible repeat (first | refine blk_drewN ?_ _ | refine blk_drew ?_ | refine blk_alloc ?_ _)); exact BK270.out⟩, ⟨by repeat (first | (with_reducible first | exact HB.out | apply below_alloc | apply pw_below_drewN | apply below_drew1 | refine below_set ?_ GE270.out) | exact HB.out)⟩⟩
            case round =>
              clear H'
              try clear c1
              try clear c2
              try clear p2
              try clear q2
              try clear hx2
              try clear c4
              try clear c4b0
              try clear c5
              try clear c5b0
              try clear p6
              try clear c10
              try clear c10b0
              try clear c11
              try clear c11b0
              try clear c12
              try clear c12b0
              try clear c13
              try clear c13b0
              try clear c13b1
              try clear c14
              try clear c18
              try clear hcz16_0
              try clear hcz16_1
              try clear hcz16_2
              try clear hcz20_0
              try clear hcz20_1
              try clear hcz20_2
              try clear hcz8_0
              try clear hcz8_1
              try clear hcz8_2
              try clear hfz16_0
              try clear hfz16_1
              try clear hfz16_2
              try clear hfz20_0
              try clear hfz20_1
              try clear hfz20_2
              try clear hfz8_0
              try clear hfz8_1
              try clear hfz8_2
              try clear hx271_0
              try clear hx271_1
              try clear hx271_2
              try clear hx271_3
              try clear hx271_4
              try clear hx278_0
              try clear hx278_1
              try clear hx278_2
              try clear hx278_3
              try clear hx278_4
              try clear hx279_0
              try clear hx279_1
              try clear hx279_2
              try clear hx279_3
              try clear p2
              try clear p271
              try clear p278
              try clear p279
              try clear q2
              try clear q271
              try clear q278
              try clear q279
              obtain ⟨x10_2, x13_2, rfl, HA, HK2, HO_10, BK270, HB⟩ := hrel
              cases gk with
              | zero => exact absurd HA.out (by simp [wishbookref10_given.l1])
              | succ k2 =>
                have H := HA.out
                clear HA
                simp only [wishbookref10_given.l1] at H
                by_cases c23 : x13_2 ≤ 100
                · rw [if_pos c23] at H
                  have c23b0 : decide (x13_2 ≤ 100) = true := decide_eq_true c23
                  clear c23
                  have H' := Aside0.mk H
                  clear H
                  go_wp2
                  go_loopg [14] k2 (fun kq v14 w' => ∃ (x10_3 : List Int) (x14_3 : Int), v14 = .int .i64 x14_3 ∧ Aside0 (wishbookref10_given.l2 kq a1 l2 ((rd_T47 l0_1 a1).f1) x10_3 x13_2 x14_3 l0_0 l0_1 l0_2 = some r) ∧ Aside0 (kq ≤ k2) ∧ Aside0 (Kd.R (Kd.int .i64) 3 w' w.heap.size (fun _ => True) u10 x10_3) ∧ Aside0 (w'.heap[gb270]? = some (.cells #[(.slice A0_0 l0_0.length c0_0), (.slice (some ad271) l0_1.length c0_1), (.slice A0_2 l0_2.length c0_2)] 26 (0, 0))) ∧ Aside0 (Below w.heap.size w w'))
                  case atStart => exact ⟨(x10_2), (0), (by first | rfl | (simp; done) | (simp [*]; done)), H', ⟨Nat.le_refl _⟩, ⟨by (with_reducible repeat (first | apply Kd.R_alloc | apply Kd.R_drewN | apply Kd.R_drew)); exact HO_10.out⟩, ⟨by (with_reducible repeat (first | refine blk_drewN ?_ _ | refine blk_drew ?_ | refine blk_alloc ?_ _)); exact BK270.out⟩, ⟨by repeat (first | (with_reducible first | exact HB.out | apply below_alloc | apply pw_below_drewN | apply below_drew1 | refine below_set ?_ GE270.out) | exact HB.out)⟩⟩
                  case round =>
                    clear H'
                    try clear c1
                    try clear c2
                    try clear p2
                    try clear q2
                    try clear hx2
                    try clear c4
                    try clear c4b0
                    try clear c5
                    try clear c5b0
                    try clear p6
                    try clear c10
                    try clear c10b0
                    try clear c11
                    try clear c11b0
                    try clear c12
                    try clear c12b0
                    try clear c13
                    try clear c13b0
                    try clear c13b1
                    try clear c14
                    try clear c18
                    try clear c23
                    try clear c23b0
                    try clear hcz16_0
                    try clear hcz16_1
                    try clear hcz16_2
                    try clear hcz20_0
                    try clear hcz20_1
                    try clear hcz20_2
                    try clear hcz8_0
                    try clear hcz8_1
                    try clear hcz8_2
                    try clear hfz16_0
                    try clear hfz16_1
                    try clear hfz16_2
                    try clear hfz20_0
                    try clear hfz20_1
                    try clear hfz20_2
                    try clear hfz8_0
                    try clear hfz8_1
                    try clear hfz8_2
                    try clear hx271_0
                    try clear hx271_1
                    try clear hx271_2
                    try clear hx271_3
                    try clear hx271_4
                    try clear hx278_0
                    try clear hx278_1
                    try clear hx278_2
                    try clear hx278_3
                    try clear hx278_4
                    try clear hx279_0
                    try clear hx279_1
                    try clear hx279_2
                    try clear hx279_3
                    try clear p2
                    try clear p271
                    try clear p278
                    try clear p279
                    try clear p6
                    try clear q2
                    try clear q271
                    try clear q278
                    try clear q279
                    obtain ⟨x10_3, x14_3, rfl, HA, HK3, HO_10, BK270, HB⟩ := hrel
                    cases gk with
                    | zero => exact absurd HA.out (by simp [wishbookref10_given.l2])
                    | succ k3 =>
                      have H := HA.out
                      clear HA
                      simp only [wishbookref10_given.l2] at H
                      by_cases c24 : x14_3 < (l2.length : Int)
                      · rw [if_pos c24] at H
                        have c24b0 : decide (x14_3 < (l2.length : Int)) = true := decide_eq_true c24
                        clear c24
                        have HC25 := Aside0.mk H
                        clear H
                        go_upto_region 17 with (fail)
                        go_cut [77] (fun v77 wc => ∃ (kq : Nat) (x77_24 : Bool), v77 = .bool x77_24 ∧ Aside0 (wishbookref10_given.j3 kq a1 l2 ((rd_T47 l0_1 a1).f1) x10_3 x13_2 x14_3 x77_24 l0_0 l0_1 l0_2 = some r) ∧ Aside0 (kq ≤ k3) ∧ Aside0 (Kd.R (Kd.int .i64) 3 wc w.heap.size (fun _ => True) u10 x10_3) ∧ Aside0 (wc.heap[gb270]? = some (.cells #[(.slice A0_0 l0_0.length c0_0), (.slice (some ad271) l0_1.length c0_1), (.slice A0_2 l0_2.length c0_2)] 26 (0, 0))) ∧ Aside0 (Below w.heap.size w wc))
                        case first =>
                          have H := HC25.out
                          clear HC25
                          by_cases c26 : 0 ≤ x14_3
                          · rw [if_pos c26] at H
                            have c26b0 : decide (0 ≤ x14_3) = true := decide_eq_true c26
                            clear c26
                            (first | rw [c26b0] | (simp only [i64_w, i32_w]; rw [c26b0]) | skip)
                            by_cases c27 : x14_3 < (l0_2.length : Int)
                            · rw [if_pos c27] at H
                              have c27b0 : decide (x14_3 < (l0_2.length : Int)) = true := decide_eq_true c27
                              clear c27
                              by_cases c28 : ((rd_T57 l0_2 x14_3).f0) = ((rd_T47 l0_1 a1).f1)
                              · rw [if_pos c28] at H
                                have c28b0 : (((rd_T57 l0_2 x14_3).f0) == ((rd_T47 l0_1 a1).f1)) = true := beq_iff_eq.mpr c28
                                have c28b1 : (((rd_T57 l0_2 x14_3).f0) != ((rd_T47 l0_1 a1).f1)) = false := bne_eq_false_iff_eq.mpr c28
                                clear c28
                                have H' := Aside0.mk H
                                clear H
                                have hcz29_0 : wr.cell? ⟨gb270, 0, none⟩ = some (.slice A0_0 l0_0.length c0_0) := (blk_cell BK270.out 0).trans rfl
                                have hcz29_1 : wr.cell? ⟨gb270, 1, none⟩ = some (.slice (some ad271) l0_1.length c0_1) := (blk_cell BK270.out 1).trans rfl
                                have hcz29_2 : wr.cell? ⟨gb270, 2, none⟩ = some (.slice A0_2 l0_2.length c0_2) := (blk_cell BK270.out 2).trans rfl
                                have hfz29_0 := blk_frozen BK270.out 0
                                have hfz29_1 := blk_frozen BK270.out 1
                                have hfz29_2 := blk_frozen BK270.out 2
                                have p286 : 0 ≤ (x14_3 : Int) := of_decide_eq_true (by first | (with_reducible assumption) | assumption)
                                have q286 : x14_3 < (l0_2.length : Int) := of_decide_eq_true (by first | (with_reducible assumption) | assumption)
                                obtain ⟨ad286, e286, hx286_0, hx286_1, hx286_2, hx286_3, hx286_4⟩ := at_T57 HR0_2.out x14_3 p286 q286
                                cases e286
                                replace hx286_0 := (HB.out.cell (World.block_lt_of_cell? w _ hx286_0)).trans hx286_0
                                replace hx286_1 := (HB.out.cell (World.block_lt_of_cell? w _ hx286_1)).trans hx286_1
                                replace hx286_2 := (HB.out.cell (World.block_lt_of_cell? w _ hx286_2)).trans hx286_2
                                replace hx286_3 := (HB.out.cell (World.block_lt_of_cell? w _ hx286_3)).trans hx286_3
                                replace hx286_4 := (HB.out.cell (World.block_lt_of_cell? w _ hx286_4)).trans hx286_4
                                replace p286 := eq_true p286
                                replace q286 := eq_true q286
                                have p287 : 0 ≤ (x14_3 : Int) := of_decide_eq_true (by first | (with_reducible assumption) | assumption)
                                have q287 : x14_3 < (l2.length : Int) := of_decide_eq_true (by first | (with_reducible assumption) | assumption)
                                obtain ⟨ad287, e287, hx287_0, hx287_1⟩ := at_T59 HR2.out x14_3 p287 q287
                                cases e287
                                replace hx287_0 := (HB.out.cell (World.block_lt_of_cell? w _ hx287_0)).trans hx287_0
                                replace hx287_1 := (HB.out.cell (World.block_lt_of_cell? w _ hx287_1)).trans hx287_1
                                replace p287 := eq_true p287
                                replace q287 := eq_true q287
                                go_wp2
                                go_meet
                                case rel => exact ⟨_, ((((rd_T59 l2 x14_3).f0) != x13_2)), (by first | rfl | (simp; done) | (simp [*]; done)), H', ⟨by have := HK1.out; have := HK2.out; have := HK3.out; first | omega | exact Nat.le_refl _⟩, ⟨by (with_reducible repeat (first | apply Kd.R_alloc | apply Kd.R_drewN | apply Kd.R_drew)); exact HO_10.out⟩, ⟨by (with_reducible repeat (first | refine blk_drewN ?_ _ | refine blk_drew ?_ | refine blk_alloc ?_ _)); exact BK270.out⟩, ⟨by repeat (first | (with_reducible first | exact HB.out | apply below_alloc | apply pw_below_drewN | apply below_drew1 | refine below_set ?_ GE270.out) | exact HB.out)⟩⟩
                              · rw [if_neg c28] at H
                                have c28b0 : (((rd_T57 l0_2 x14_3).f0) == ((rd_T47 l0_1 a1).f1)) = false := beq_eq_false_iff_ne.mpr c28
                                have c28b1 : (((rd_T57 l0_2 x14_3).f0) != ((rd_T47 l0_1 a1).f1)) = true := bne_iff_ne.mpr c28
                                have H' := Aside0.mk H
                                clear H
                                have hcz30_0 : wr.cell? ⟨gb270, 0, none⟩ = some (.slice A0_0 l0_0.length c0_0) := (blk_cell BK270.out 0).trans rfl
                                have hcz30_1 : wr.cell? ⟨gb270, 1, none⟩ = some (.slice (some ad271) l0_1.length c0_1) := (blk_cell BK270.out 1).trans rfl
                                have hcz30_2 : wr.cell? ⟨gb270, 2, none⟩ = some (.slice A0_2 l0_2.length c0_2) := (blk_cell BK270.out 2).trans rfl
                                have hfz30_0 := blk_frozen BK270.out 0
                                have hfz30_1 := blk_frozen BK270.out 1
                                have hfz30_2 := blk_frozen BK270.out 2
                                have p286 : 0 ≤ (x14_3 : Int) := of_decide_eq_true (by first | (with_reducible assumption) | assumption)
                                have q286 : x14_3 < (l0_2.length : Int) := of_decide_eq_true (by first | (with_reducible assumption) | assumption)
                                obtain ⟨ad286, e286, hx286_0, hx286_1, hx286_2, hx286_3, hx286_4⟩ := at_T57 HR0_2.out x14_3 p286 q286
                                cases e286
                                replace hx286_0 := (HB.out.cell (World.block_lt_of_cell? w _ hx286_0)).trans hx286_0
                                replace hx286_1 := (HB.out.cell (World.block_lt_of_cell? w _ hx286_1)).trans hx286_1
                                replace hx286_2 := (HB.out.cell (World.block_lt_of_cell? w _ hx286_2)).trans hx286_2
                                replace hx286_3 := (HB.out.cell (World.block_lt_of_cell? w _ hx286_3)).trans hx286_3
                                replace hx286_4 := (HB.out.cell (World.block_lt_of_cell? w _ hx286_4)).trans hx286_4
                                replace p286 := eq_true p286
                                replace q286 := eq_true q286
                                go_wp2
                                go_meet
                                case rel => exact ⟨_, (true), (by first | rfl | (simp; done) | (simp [*]; done)), H', ⟨by have := HK1.out; have := HK2.out; have := HK3.out; first | omega | exact Nat.le_refl _⟩, ⟨by (with_reducible repeat (first | apply Kd.R_alloc | apply Kd.R_drewN | apply Kd.R_drew)); exact HO_10.out⟩, ⟨by (with_reducible repeat (first | refine blk_drewN ?_ _ | refine blk_drew ?_ | refine blk_alloc ?_ _)); exact BK270.out⟩, ⟨by repeat (first | (with_reducible first | exact HB.out | apply below_alloc | apply pw_below_drewN | apply below_drew1 | refine below_set ?_ GE270.out) | exact HB.out)⟩⟩
                            · rw [if_neg c27] at H
                              exact absurd H (by simp)
                          · rw [if_neg c26] at H
                            exact absurd H (by simp)
                        case rest =>
                          clear HC25
                          try clear c1
                          try clear c2
                          try clear p2
                          try clear q2
                          try clear hx2
                          try clear c4
                          try clear c4b0
                          try clear c5
                          try clear c5b0
                          try clear p6
                          try clear c10
                          try clear c10b0
                          try clear c11
                          try clear c11b0
                          try clear c12
                          try clear c12b0
                          try clear c13
                          try clear c13b0
                          try clear c13b1
                          try clear c14
                          try clear c18
                          try clear c23
                          try clear c23b0
                          try clear c24
                          try clear c24b0
                          try clear c26
                          try clear c26b0
                          try clear c27
                          try clear c27b0
                          try clear p27
                          try clear q27
                          try clear hx27
                          try clear c28
                          try clear c28b0
                          try clear c28b1
                          try clear p28
                          try clear q28
                          try clear hx28
                          try clear hcz16_0
                          try clear hcz16_1
                          try clear hcz16_2
                          try clear hcz20_0
                          try clear hcz20_1
                          try clear hcz20_2
                          try clear hcz29_0
                          try clear hcz29_1
                          try clear hcz29_2
                          try clear hcz30_0
                          try clear hcz30_1
                          try clear hcz30_2
                          try clear hcz8_0
                          try clear hcz8_1
                          try clear hcz8_2
                          try clear hfz16_0
                          try clear hfz16_1
                          try clear hfz16_2
                          try clear hfz20_0
                          try clear hfz20_1
                          try clear hfz20_2
                          try clear hfz29_0
                          try clear hfz29_1
                          try clear hfz29_2
                          try clear hfz30_0
                          try clear hfz30_1
                          try clear hfz30_2
                          try clear hfz8_0
                          try clear hfz8_1
                          try clear hfz8_2
                          try clear hx271_0
                          try clear hx271_1
                          try clear hx271_2
                          try clear hx271_3
                          try clear hx271_4
                          try clear hx278_0
                          try clear hx278_1
                          try clear hx278_2
                          try clear hx278_3
                          try clear hx278_4
                          try clear hx279_0
                          try clear hx279_1
                          try clear hx279_2
                          try clear hx279_3
                          try clear hx286_0
                          try clear hx286_1
                          try clear hx286_2
                          try clear hx286_3
                          try clear hx286_4
                          try clear hx287_0
                          try clear hx287_1
                          try clear p2
                          try clear p271
                          try clear p278
                          try clear p279
                          try clear p286
                          try clear p287
                          try clear p6
                          try clear q2
                          try clear q271
                          try clear q278
                          try clear q279
                          try clear q286
                          try clear q287
                          obtain ⟨kq, x77_24, rfl, HA, HJ24, HO_10, BK270, HB⟩ := hcut
                          cases kq with
                          | zero => exact absurd HA.out (by simp [wishbookref10_given.j3])
                          | succ kj24 =>
                            have H := HA.out
                            clear HA
                            simp only [wishbookref10_given.j3] at H
                            by_cases c31 : x77_24 = true
                            · subst c31
                              have H1 : (wishbookref10_given.l2 kj24 a1 l2 ((rd_T47 l0_1 a1).f1) x10_3 x13_2 (wrap64 (x14_3 + 1)) l0_0 l0_1 l0_2) = some r := by rw [if_pos rfl] at H; exact H
                              clear H
                              have H := H1
                              clear H1
                              have H' := Aside0.mk H
                              clear H
                              go_wp2
                              go_roundg kj24
                              case measure => have := HK1.out; have := HK2.out; have := HK3.out; have := HJ24.out; omega
                              case rel => exact ⟨(x10_3), (wrap64 (x14_3 + 1)), (by first | rfl | (simp; done) | (simp [*]; done)), H', ⟨by have := HK1.out; have := HK2.out; have := HK3.out; have := HJ24.out; omega⟩, ⟨by (with_reducible repeat (first | apply Kd.R_alloc | apply Kd.R_drewN | apply Kd.R_drew)); exact HO_10.out⟩, ⟨by (with_reducible repeat (first | refine blk_drewN ?_ _ | refine blk_drew ?_ | refine blk_alloc ?_ _)); exact BK270.out⟩, ⟨by repeat (first | (with_reducible first | exact HB.out | apply below_alloc | apply pw_below_drewN | apply below_drew1 | refine below_set ?_ GE270.out) | exact HB.out)⟩⟩
                            · replace c31 := Bool.eq_false_iff.mpr c31
                              subst c31
                              have H1 : (wishbookref10_given.l3 kj24 a1 l2 ((rd_T47 l0_1 a1).f1) x10_3 x13_2 x14_3 0 l0_0 l0_1 l0_2) = some r := by rw [if_neg (show ¬ (false = true) by decide)] at H; exact H
                              clear H
                              have H := H1
                              clear H1
                              have H' := Aside0.mk H
                              clear H
                              go_wp2
                              go_loopg [15] kj24 (fun kq v15 w' => ∃ (x10_5 : List Int) (x15_5 : Int), v15 = .int .i64 x15_5 ∧ Aside0 (wishbookref10_given.l3 kq a1 l2 ((rd_T47 l0_1 a1).f1) x10_5 x13_2 x14_3 x15_5 l0_0 l0_1 l0_2 = some r) ∧ Aside0 (kq ≤ kj24) ∧ Aside0 (Kd.R (Kd.int .i64) 3 w' w.heap.size (fun _ => True) u10 x10_5) ∧ Aside0 (w'.heap[gb270]? = some (.cells #[(.slice A0_0 l0_0.length c0_0), (.slice (some ad271) l0_1.length c0_1), (.slice A0_2 l0_2.length c0_2)] 26 (0, 0))) ∧ Aside0 (Below w.heap.size w w'))
                              case atStart => exact ⟨(x10_3), (0), (by first | rfl | (simp; done) | (simp [*]; done)), H', ⟨Nat.le_refl _⟩, ⟨by (with_reducible repeat (first | apply Kd.R_alloc | apply Kd.R_drewN | apply Kd.R_drew)); exact HO_10.out⟩, ⟨by (with_reducible repeat (first | refine blk_drewN ?_ _ | refine blk_drew ?_ | refine blk_alloc ?_ _)); exact BK270.out⟩, ⟨by repeat (first | (with_reducible first | exact HB.out | apply below_alloc | apply pw_below_drewN | apply below_drew1 | refine below_set ?_ GE270.out) | exact HB.out)⟩⟩
                              case round =>
                                clear H'
                                try clear c1
                                try clear c2
                                try clear p2
                                try clear q2
                                try clear hx2
                                try clear c3
                                try clear c4
                                try clear c4b0
                                try clear c5
                                try clear c5b0
                                try clear p6
                                try clear c10
                                try clear c10b0
                                try clear c11
                                try clear c11b0
                                try clear c12
                                try clear c12b0
                                try clear c13
                                try clear c13b0
                                try clear c13b1
                                try clear c14
                                try clear c18
                                try clear c23
                                try clear c23b0
                                try clear c24
                                try clear c24b0
                                try clear c26
                                try clear c26b0
                                try clear c27
                                try clear c27b0
                                try clear p27
                                try clear q27
                                try clear hx27
                                try clear c28
                                try clear c28b0
                                try clear c28b1
                                try clear p28
                                try clear q28
                                try clear hx28
                                try clear c31
                                try clear hcz16_0
                                try clear hcz16_1
                                try clear hcz16_2
                                try clear hcz20_0
                                try clear hcz20_1
                                try clear hcz20_2
                                try clear hcz29_0
                                try clear hcz29_1
                                try clear hcz29_2
                                try clear hcz30_0
                                try clear hcz30_1
                                try clear hcz30_2
                                try clear hcz8_0
                                try clear hcz8_1
                                try clear hcz8_2
                                try clear hfz16_0
                                try clear hfz16_1
                                try clear hfz16_2
                                try clear hfz20_0
                                try clear hfz20_1
                                try clear hfz20_2
                                try clear hfz29_0
                                try clear hfz29_1
                                try clear hfz29_2
                                try clear hfz30_0
                                try clear hfz30_1
                                try clear hfz30_2
                                try clear hfz8_0
                                try clear hfz8_1
                                try clear hfz8_2
                                try clear hx271_0
                                try clear hx271_1
                                try clear hx271_2
                                try clear hx271_3
                                try clear hx271_4
                                try clear hx278_0
                                try clear hx278_1
                                try clear hx278_2
                                try clear hx278_3
                                try clear hx278_4
                                try clear hx279_0
                                try clear hx279_1
                                try clear hx279_2
                                try clear hx279_3
                                try clear hx286_0
                                try clear hx286_1
                                try clear hx286_2
                                try clear hx286_3
                                try clear hx286_4
                                try clear hx287_0
                                try clear hx287_1
                                try clear p2
                                try clear p27
                                try clear p271
                                try clear p278
                                try clear p279
                                try clear p28
                                try clear p286
                                try clear p287
                                try clear p6
                                try clear q2
                                try clear q27
                                try clear q271
                                try clear q278
                                try clear q279
                                try clear q28
                                try clear q286
                                try clear q287
                                obtain ⟨x10_5, x15_5, rfl, HA, HK5, HO_10, BK270, HB⟩ := hrel
                                cases gk with
                                | zero => exact absurd HA.out (by simp [wishbookref10_given.l3])
                                | succ k5 =>
                                  have H := HA.out
                                  clear HA
                                  simp only [wishbookref10_given.l3] at H
                                  by_cases c32 : 0 ≤ x14_3
                                  · rw [if_pos c32] at H
                                    have c32b0 : decide (0 ≤ x14_3) = true := decide_eq_true c32
                                    clear c32
                                    by_cases c33 : x14_3 < (l2.length : Int)
                                    · rw [if_pos c33] at H
                                      have c33b0 : decide (x14_3 < (l2.length : Int)) = true := decide_eq_true c33
                                      clear c33
                                      by_cases c34 : x15_5 < ((rd_T59 l2 x14_3).f1)
                                      · rw [if_pos c34] at H
                                        have c34b0 : decide (x15_5 < ((rd_T59 l2 x14_3).f1)) = true := decide_eq_true c34
                                        clear c34
                                        replace H := Option.bind_eq_some_iff.mp H
                                        obtain ⟨t289, A350, H⟩ := H
                                        replace H : (if t289 ≥ 0 then (if 0 ≤ t289 then (if t289 < (x10_5.length : Int) then ((some (x10_5.set (t289 : Int).toNat (wrap64 ((rd x10_5 t289) - 1)) : List Int)).bind fun y291 => (if 0 ≤ a1 then (if a1 < (x10_5.length : Int) then (if (rd y291 a1) = 0 then (some x13_2) else (wishbookref10_given.l3 k5 a1 l2 ((rd_T47 l0_1 a1).f1) y291 x13_2 x14_3 (wrap64 (x15_5 + 1)) l0_0 l0_1 l0_2)) else (none)) else (none))) else (none)) else (none)) else (if 0 ≤ a1 then (if a1 < (x10_5.length : Int) then (if (rd x10_5 a1) = 0 then (some x13_2) else (wishbookref10_given.l3 k5 a1 l2 ((rd_T47 l0_1 a1).f1) x10_5 x13_2 x14_3 (wrap64 (x15_5 + 1)) l0_0 l0_1 l0_2)) else (none)) else (none))) = some r := H
                                        have A35 := Aside0.mk A350
                                        clear A350
                                        by_cases c36 : t289 ≥ 0
                                        · rw [if_pos c36] at H
                                          have c36b0 : decide (0 ≤ t289) = true := decide_eq_true c36
                                          clear c36
                                          by_cases c37 : 0 ≤ t289
                                          · rw [if_pos c37] at H
                                            have c37b0 : decide (0 ≤ t289) = true := decide_eq_true c37
                                            clear c37
                                            by_cases c38 : t289 < (x10_5.length : Int)
                                            · rw [if_pos c38] at H
                                              have c38b0 : decide (t289 < (x10_5.length : Int)) = true := decide_eq_true c38
                                              clear c38
                                              obtain ⟨y291, hy291⟩ : ∃ y_ : List Int, y_ = (x10_5.set (t289 : Int).toNat (wrap64 ((rd x10_5 t289) - 1))) := ⟨_, rfl⟩
                                              replace H : (if 0 ≤ a1 then (if a1 < (x10_5.length : Int) then (if (rd y291 a1) = 0 then (some x13_2) else (wishbookref10_given.l3 k5 a1 l2 ((rd_T47 l0_1 a1).f1) y291 x13_2 x14_3 (wrap64 (x15_5 + 1)) l0_0 l0_1 l0_2)) else (none)) else (none)) = some r := by first | (rw [hy291]; with_reducible exact H) | (have H2_ := (Option.bind_some _ _).symm.trans H; rw [hy291]; with_reducible exact H2_) | (have H2_ := (Option.bind_some _ _).symm.trans H; with_reducible exact H2_) | with_reducible exact H | (rw [hy291]; exact H) | exact H
                                              have Ny291 := Aside0.mk hy291
                                              clear hy291
                                              by_cases c40 : 0 ≤ a1
                                              · rw [if_pos c40] at H
                                                have c40b0 : decide (0 ≤ a1) = true := decide_eq_true c40
                                                clear c40
                                                by_cases c41 : a1 < (x10_5.length : Int)
                                                · rw [if_pos c41] at H
                                                  have c41b0 : decide (a1 < (x10_5.length : Int)) = true := decide_eq_true c41
                                                  clear c41
                                                  by_cases c42 : (rd y291 a1) = 0
                                                  · rw [if_pos c42] at H
                                                    have c42b0 : ((rd y291 a1) == 0) = true := beq_iff_eq.mpr c42
                                                    have c42b1 : ((rd y291 a1) != 0) = false := bne_eq_false_iff_eq.mpr c42
                                                    clear c42
                                                    obtain rfl := Option.some.inj H
                                                    have p288 : 0 ≤ (x14_3 : Int) := of_decide_eq_true (by first | (with_reducible assumption) | assumption)
                                                    have q288 : x14_3 < (l2.length : Int) := of_decide_eq_true (by first | (with_reducible assumption) | assumption)
                                                    obtain ⟨ad288, e288, hx288_0, hx288_1⟩ := at_T59 HR2.out x14_3 p288 q288
                                                    cases e288
                                                    replace hx288_0 := (HB.out.cell (World.block_lt_of_cell? w _ hx288_0)).trans hx288_0
                                                    replace hx288_1 := (HB.out.cell (World.block_lt_of_cell? w _ hx288_1)).trans hx288_1
                                                    replace p288 := eq_true p288
                                                    replace q288 := eq_true q288
                                                    have hcz43_0 : wr.cell? ⟨gb270, 0, none⟩ = some (.slice A0_0 l0_0.length c0_0) := (blk_cell BK270.out 0).trans rfl
                                                    have hcz43_1 : wr.cell? ⟨gb270, 1, none⟩ = some (.slice (some ad271) l0_1.length c0_1) := (blk_cell BK270.out 1).trans rfl
                                                    have hcz43_2 : wr.cell? ⟨gb270, 2, none⟩ = some (.slice A0_2 l0_2.length c0_2) := (blk_cell BK270.out 2).trans rfl
                                                    have hfz43_0 := blk_frozen BK270.out 0
                                                    have hfz43_1 := blk_frozen BK270.out 1
                                                    have hfz43_2 := blk_frozen BK270.out 2
                                                    obtain ⟨Ao44, co44, eo44⟩ := Kd.R_slice HO_10.out
                                                    subst eo44
                                                    go_wp2_with (first | ((with_reducible refine gate_callee (f := 74) rfl ?_); refine goesL_ (some 89) rfl rfl Tryd.func74 (by kernel_rfl) rfl #[.agg #[.slice A0_0 l0_0.length c0_0, .slice (some ad271) l0_1.length c0_1, .slice A0_2 l0_2.length c0_2], .slice Ao44 x10_5.length co44] rfl (by (try simp only [List.map_toArray, List.map_cons, List.map_nil]); first | done | rfl | (simp only [List.length_drop, List.length_take]; rfl)) ?_; (with_reducible refine (wishbookref10_first.calls k5 _ _ l0_0 _ _ l0_1 _ _ l0_2 _ _ x10_5 t289 _ ?side1 ?side2 ?side3 ?side4 ?side5 ?side6 ?side7 ?side8 A35.out).mono ?_); (case side1 => repeat (first | exact (Kd.C_below HR0_0.out HB.out) | (with_reducible refine Kd.C_alloc ?_ _) | (with_reducible refine Kd.C_drewN ?_ _) | (with_reducible refine Kd.C_drew ?_))); (case side2 => exact HC0_0.out); (case side3 => repeat (first | exact (Kd.C_below HR0_1.out HB.out) | (with_reducible refine Kd.C_alloc ?_ _) | (with_reducible refine Kd.C_drewN ?_ _) | (with_reducible refine Kd.C_drew ?_))); (case side4 => exact HC0_1.out); (case side5 => repeat (first | exact (Kd.C_below HR0_2.out HB.out) | (with_reducible refine Kd.C_alloc ?_ _) | (with_reducible refine Kd.C_drewN ?_ _) | (with_reducible refine Kd.C_drew ?_))); (case side6 => exact HC0_2.out); (case side7 => repeat (first | exact (Kd.R_reads' HO_10.out).2.2 | (with_reducible refine Kd.C_alloc ?_ _) | (with_reducible refine Kd.C_drewN ?_ _) | (with_reducible refine Kd.C_drew ?_))); (case side8 => exact (Kd.R_reads' HO_10.out).2.1); rintro e w45 ⟨rfl, hb⟩; refine ⟨_, rfl, ?_⟩; have n0_ := Aside0.mk (Kd.R_below (by (with_reducible repeat (first | apply Kd.R_alloc | apply Kd.R_drewN | apply Kd.R_drew)); exact HO_10.out) hb); have n1_ := Aside0.mk (blk_below (g := gb270) (o := .cells #[.slice A0_0 l0_0.length c0_0, .slice (some ad271) l0_1.length c0_1, .slice A0_2 l0_2.length c0_2] 26 (0, 0)) (by (with_reducible repeat (first | refine blk_drewN ?_ _ | refine blk_drew ?_ | refine blk_alloc ?_ _)); exact BK270.out) hb); have n2_ := Aside0.mk (below_step (by repeat (first | (with_reducible first | exact HB.out | apply below_alloc | apply pw_below_drewN | apply below_drew1 | refine below_set ?_ GE270.out) | exact HB.out)) hb); clear HO_10; clear BK270; clear HB; have HO_10 := n0_; have BK270 := n1_; have HB := n2_; clear n0_ n1_ n2_; (try clear hb); (try clear hb2); (try clear hk); (try clear hi); have p290 : 0 ≤ (t289 : Int) := of_decide_eq_true (by first | (with_reducible assumption) | assumption); have q290 : t289 < (x10_5.length : Int) := of_decide_eq_true (by first | (with_reducible assumption) | assumption); obtain ⟨ad290, e290, hx290_0⟩ := Kd.at_int (Kd.R_reads' HO_10.out).2.2 t289 p290 q290; cases e290; replace p290 := eq_true p290; replace q290 := eq_true q290; have p39 : 0 ≤ (t289 : Int) := of_decide_eq_true (by first | (with_reducible assumption) | assumption); have q39 : (t289 : Int) < ((x10_5.length : Int) : Int) := of_decide_eq_true (by first | (with_reducible assumption) | assumption); obtain ⟨go39, co39, eo39, gb39, gl39, cl39, HG39⟩ := Kd.R_form HO_10.out (by omega); (first | cases eo39 | (injection eo39 with ea_ en_ ec_; (first | subst ea_ | (injection ea_ with ea_; subst ea_)); subst ec_; clear en_)); have GB39 := Aside0.mk gb39; have GG39 := Aside0.mk HG39; clear gb39 gl39 HG39; (first | simp only [add_plain] at hx290_0 | skip); obtain ⟨hx39_0, hf39_0⟩ := Kd.R_celln 0 HO_10.out (t289 : Int) p39 q39; replace p39 := eq_true p39; replace q39 := eq_true q39; obtain ⟨hy46_, hz46_⟩ := Kd.R_celln 0 HO_10.out (t289 : Int) (of_decide_eq_true (by first | (with_reducible assumption) | assumption)) (of_decide_eq_true (by first | (with_reducible assumption) | assumption)); have HP46 := Kd.R_putg HO_10.out (t289 : Int) (wrap64 ((rd x10_5 t289) - 1))) | ((with_reducible refine gate_store (t := 3) (p := 97) rfl ?_); refine store_event (t := 3) (p := 97) (v := ?vo_w47) (w1 := (w45.setCell ⟨go39, (t289 : Int).toNat, none⟩ (.int .i64 (wrap64 ((rd x10_5 t289) - 1))))) ?hg ?ho ?hn ?hr ?_; (case ho => rfl); (case hg => rfl); (case hn => rfl); (case hr => first | (go_simp; done) | (go_simp; rfl)); intro w47 hw; have hg : w45.grownBy w47 (some go39) := (by rw [hw]; exact HP46.2); have hp_ : Kd.R (Kd.int .i64) 3 w47 w.heap.size (fun _ => True) (.slice (some ⟨go39, 0, none⟩) x10_5.length co44) y291 := (by rw [hw, Ny291.out]; exact HP46.1); clear HP46; have n0_ := Aside0.mk (hp_); have n1_ := Aside0.mk (blk_grown (g := gb270) (o := .cells #[.slice A0_0 l0_0.length c0_0, .slice (some ad271) l0_1.length c0_1, .slice A0_2 l0_2.length c0_2] 26 (0, 0)) (by (with_reducible repeat (first | refine blk_drewN ?_ _ | refine blk_drew ?_ | refine blk_alloc ?_ _)); exact BK270.out) hg (Kd.R_ne HO_10.out BK270.out (by decide))); have n2_ := Aside0.mk ((by rw [hw]; exact below_set (HB.out) GB39.out : Below w.heap.size w w47)); clear HO_10; clear BK270; clear HB; have HO_10 := n0_; have BK270 := n1_; have HB := n2_; clear n0_ n1_ n2_; clear hg hw hp_; have p292 : 0 ≤ (a1 : Int) := of_decide_eq_true (by first | (with_reducible assumption) | assumption); have q292 : a1 < (y291.length : Int) := (by have h_ : (a1 : Int) < ((x10_5.length : Int) : Int) := of_decide_eq_true (by first | (with_reducible assumption) | assumption); first | (have e_ := (Kd.R_reads' HO_10.out).1; omega) | simpa only [Ny291.out, List.length_set] using h_); have ql292 : ((a1 : Int) < ((x10_5.length : Int) : Int)) = True := eq_true (of_decide_eq_true (by first | (with_reducible assumption) | assumption)); obtain ⟨ad292, e292, hx292_0⟩ := Kd.at_int (Kd.R_reads' HO_10.out).2.2 a1 p292 q292; obtain rfl : (⟨go39, 0, none⟩ : Addr) = ad292 := (by injection e292); (first | simp only [add_plain] at hx292_0 | simp only [add_at] at hx292_0 | simp only [Addr.add, Nat.zero_add] at hx292_0 | skip); replace p292 := eq_true p292; replace q292 := eq_true q292))
                                                    go_ret
                                                    exact ⟨by first | rfl | (simp [errW_none, errW_some] <;> rfl) | (simp [*, errW_none, errW_some] <;> rfl), by repeat (first | (with_reducible first | exact HB.out | apply below_alloc | apply pw_below_drewN | apply below_drew1 | refine below_set ?_ GE270.out) | exact HB.out)⟩
                                                  · rw [if_neg c42] at H
                                                    have c42b0 : ((rd y291 a1) == 0) = false := beq_eq_false_iff_ne.mpr c42
                                                    have c42b1 : ((rd y291 a1) != 0) = true := bne_iff_ne.mpr c42
                                                    have H' := Aside0.mk H
                                                    clear H
                                                    have p288 : 0 ≤ (x14_3 : Int) := of_decide_eq_true (by first | (with_reducible assumption) | assumption)
                                                    have q288 : x14_3 < (l2.length : Int) := of_decide_eq_true (by first | (with_reducible assumption) | assumption)
                                                    obtain ⟨ad288, e288, hx288_0, hx288_1⟩ := at_T59 HR2.out x14_3 p288 q288
                                                    cases e288
                                                    replace hx288_0 := (HB.out.cell (World.block_lt_of_cell? w _ hx288_0)).trans hx288_0
                                                    replace hx288_1 := (HB.out.cell (World.block_lt_of_cell? w _ hx288_1)).trans hx288_1
                                                    replace p288 := eq_true p288
                                                    replace q288 := eq_true q288
                                                    have hcz48_0 : wr.cell? ⟨gb270, 0, none⟩ = some (.slice A0_0 l0_0.length c0_0) := (blk_cell BK270.out 0).trans rfl
                                                    have hcz48_1 : wr.cell? ⟨gb270, 1, none⟩ = some (.slice (some ad271) l0_1.length c0_1) := (blk_cell BK270.out 1).trans rfl
                                                    have hcz48_2 : wr.cell? ⟨gb270, 2, none⟩ = some (.slice A0_2 l0_2.length c0_2) := (blk_cell BK270.out 2).trans rfl
                                                    have hfz48_0 := blk_frozen BK270.out 0
                                                    have hfz48_1 := blk_frozen BK270.out 1
                                                    have hfz48_2 := blk_frozen BK270.out 2
                                                    obtain ⟨Ao49, co49, eo49⟩ := Kd.R_slice HO_10.out
                                                    subst eo49
                                                    go_wp2_with (first | ((with_reducible refine gate_callee (f := 74) rfl ?_); refine goesL_ (some 89) rfl rfl Tryd.func74 (by kernel_rfl) rfl #[.agg #[.slice A0_0 l0_0.length c0_0, .slice (some ad271) l0_1.length c0_1, .slice A0_2 l0_2.length c0_2], .slice Ao49 x10_5.length co49] rfl (by (try simp only [List.map_toArray, List.map_cons, List.map_nil]); first | done | rfl | (simp only [List.length_drop, List.length_take]; rfl)) ?_; (with_reducible refine (wishbookref10_first.calls k5 _ _ l0_0 _ _ l0_1 _ _ l0_2 _ _ x10_5 t289 _ ?side1 ?side2 ?side3 ?side4 ?side5 ?side6 ?side7 ?side8 A35.out).mono ?_); (case side1 => repeat (first | exact (Kd.C_below HR0_0.out HB.out) | (with_reducible refine Kd.C_alloc ?_ _) | (with_reducible refine Kd.C_drewN ?_ _) | (with_reducible refine Kd.C_drew ?_))); (case side2 => exact HC0_0.out); (case side3 => repeat (first | exact (Kd.C_below HR0_1.out HB.out) | (with_reducible refine Kd.C_alloc ?_ _) | (with_reducible refine Kd.C_drewN ?_ _) | (with_reducible refine Kd.C_drew ?_))); (case side4 => exact HC0_1.out); (case side5 => repeat (first | exact (Kd.C_below HR0_2.out HB.out) | (with_reducible refine Kd.C_alloc ?_ _) | (with_reducible refine Kd.C_drewN ?_ _) | (with_reducible refine Kd.C_drew ?_))); (case side6 => exact HC0_2.out); (case side7 => repeat (first | exact (Kd.R_reads' HO_10.out).2.2 | (with_reducible refine Kd.C_alloc ?_ _) | (with_reducible refine Kd.C_drewN ?_ _) | (with_reducible refine Kd.C_drew ?_))); (case side8 => exact (Kd.R_reads' HO_10.out).2.1); rintro e w50 ⟨rfl, hb⟩; refine ⟨_, rfl, ?_⟩; have n0_ := Aside0.mk (Kd.R_below (by (with_reducible repeat (first | apply Kd.R_alloc | apply Kd.R_drewN | apply Kd.R_drew)); exact HO_10.out) hb); have n1_ := Aside0.mk (blk_below (g := gb270) (o := .cells #[.slice A0_0 l0_0.length c0_0, .slice (some ad271) l0_1.length c0_1, .slice A0_2 l0_2.length c0_2] 26 (0, 0)) (by (with_reducible repeat (first | refine blk_drewN ?_ _ | refine blk_drew ?_ | refine blk_alloc ?_ _)); exact BK270.out) hb); have n2_ := Aside0.mk (below_step (by repeat (first | (with_reducible first | exact HB.out | apply below_alloc | apply pw_below_drewN | apply below_drew1 | refine below_set ?_ GE270.out) | exact HB.out)) hb); clear HO_10; clear BK270; clear HB; have HO_10 := n0_; have BK270 := n1_; have HB := n2_; clear n0_ n1_ n2_; (try clear hb); (try clear hb2); (try clear hk); (try clear hi); have p290 : 0 ≤ (t289 : Int) := of_decide_eq_true (by first | (with_reducible assumption) | assumption); have q290 : t289 < (x10_5.length : Int) := of_decide_eq_true (by first | (with_reducible assumption) | assumption); obtain ⟨ad290, e290, hx290_0⟩ := Kd.at_int (Kd.R_reads' HO_10.out).2.2 t289 p290 q290; cases e290; replace p290 := eq_true p290; replace q290 := eq_true q290; have p39 : 0 ≤ (t289 : Int) := of_decide_eq_true (by first | (with_reducible assumption) | assumption); have q39 : (t289 : Int) < ((x10_5.length : Int) : Int) := of_decide_eq_true (by first | (with_reducible assumption) | assumption); obtain ⟨go39, co39, eo39, gb39, gl39, cl39, HG39⟩ := Kd.R_form HO_10.out (by omega); (first | cases eo39 | (injection eo39 with ea_ en_ ec_; (first | subst ea_ | (injection ea_ with ea_; subst ea_)); subst ec_; clear en_)); have GB39 := Aside0.mk gb39; have GG39 := Aside0.mk HG39; clear gb39 gl39 HG39; (first | simp only [add_plain] at hx290_0 | skip); obtain ⟨hx39_0, hf39_0⟩ := Kd.R_celln 0 HO_10.out (t289 : Int) p39 q39; replace p39 := eq_true p39; replace q39 := eq_true q39; obtain ⟨hy51_, hz51_⟩ := Kd.R_celln 0 HO_10.out (t289 : Int) (of_decide_eq_true (by first | (with_reducible assumption) | assumption)) (of_decide_eq_true (by first | (with_reducible assumption) | assumption)); have HP51 := Kd.R_putg HO_10.out (t289 : Int) (wrap64 ((rd x10_5 t289) - 1))) | ((with_reducible refine gate_store (t := 3) (p := 97) rfl ?_); refine store_event (t := 3) (p := 97) (v := ?vo_w52) (w1 := (w50.setCell ⟨go39, (t289 : Int).toNat, none⟩ (.int .i64 (wrap64 ((rd x10_5 t289) - 1))))) ?hg ?ho ?hn ?hr ?_; (case ho => rfl); (case hg => rfl); (case hn => rfl); (case hr => first | (go_simp; done) | (go_simp; rfl)); intro w52 hw; have hg : w50.grownBy w52 (some go39) := (by rw [hw]; exact HP51.2); have hp_ : Kd.R (Kd.int .i64) 3 w52 w.heap.size (fun _ => True) (.slice (some ⟨go39, 0, none⟩) x10_5.length co49) y291 := (by rw [hw, Ny291.out]; exact HP51.1); clear HP51; have n0_ := Aside0.mk (hp_); have n1_ := Aside0.mk (blk_grown (g := gb270) (o := .cells #[.slice A0_0 l0_0.length c0_0, .slice (some ad271) l0_1.length c0_1, .slice A0_2 l0_2.length c0_2] 26 (0, 0)) (by (with_reducible repeat (first | refine blk_drewN ?_ _ | refine blk_drew ?_ | refine blk_alloc ?_ _)); exact BK270.out) hg (Kd.R_ne HO_10.out BK270.out (by decide))); have n2_ := Aside0.mk ((by rw [hw]; exact below_set (HB.out) GB39.out : Below w.heap.size w w52)); clear HO_10; clear BK270; clear HB; have HO_10 := n0_; have BK270 := n1_; have HB := n2_; clear n0_ n1_ n2_; clear hg hw hp_; have p292 : 0 ≤ (a1 : Int) := of_decide_eq_true (by first | (with_reducible assumption) | assumption); have q292 : a1 < (y291.length : Int) := (by have h_ : (a1 : Int) < ((x10_5.length : Int) : Int) := of_decide_eq_true (by first | (with_reducible assumption) | assumption); first | (have e_ := (Kd.R_reads' HO_10.out).1; omega) | simpa only [Ny291.out, List.length_set] using h_); have ql292 : ((a1 : Int) < ((x10_5.length : Int) : Int)) = True := eq_true (of_decide_eq_true (by first | (with_reducible assumption) | assumption)); obtain ⟨ad292, e292, hx292_0⟩ := Kd.at_int (Kd.R_reads' HO_10.out).2.2 a1 p292 q292; obtain rfl : (⟨go39, 0, none⟩ : Addr) = ad292 := (by injection e292); (first | simp only [add_plain] at hx292_0 | simp only [add_at] at hx292_0 | simp only [Addr.add, Nat.zero_add] at hx292_0 | skip); replace p292 := eq_true p292; replace q292 := eq_true q292))
                                                    go_roundg k5
                                                    case measure => have := HK1.out; have := HK2.out; have := HK3.out; have := HJ24.out; have := HK5.out; omega
                                                    case rel => exact ⟨(y291), (wrap64 (x15_5 + 1)), (by first | rfl | (simp; done) | (simp [*]; done)), H', ⟨by have := HK1.out; have := HK2.out; have := HK3.out; have := HJ24.out; have := HK5.out; omega⟩, ⟨by (with_reducible repeat (first | apply Kd.R_alloc | apply Kd.R_drewN | apply Kd.R_drew)); exact HO_10.out⟩, ⟨by (with_reducible repeat (first | refine blk_drewN ?_ _ | refine blk_drew ?_ | refine blk_alloc ?_ _)); exact BK270.out⟩, ⟨by repeat (first | (with_reducible first | exact HB.out | apply below_alloc | apply pw_below_drewN | apply below_drew1 | refine below_set ?_ GE270.out) | exact HB.out)⟩⟩
                                                · rw [if_neg c41] at H
                                                  exact absurd H (by simp)
                                              · rw [if_neg c40] at H
                                                exact absurd H (by simp)
                                            · rw [if_neg c38] at H
                                              exact absurd H (by simp)
                                          · rw [if_neg c37] at H
                                            exact absurd H (by simp)
                                        · rw [if_neg c36] at H
                                          have c36b0 : decide (0 ≤ t289) = false := decide_eq_false c36
                                          clear c36
                                          by_cases c53 : 0 ≤ a1
                                          · rw [if_pos c53] at H
                                            have c53b0 : decide (0 ≤ a1) = true := decide_eq_true c53
                                            clear c53
                                            by_cases c54 : a1 < (x10_5.length : Int)
                                            · rw [if_pos c54] at H
                                              have c54b0 : decide (a1 < (x10_5.length : Int)) = true := decide_eq_true c54
                                              clear c54
                                              by_cases c55 : (rd x10_5 a1) = 0
                                              · rw [if_pos c55] at H
                                                have c55b0 : ((rd x10_5 a1) == 0) = true := beq_iff_eq.mpr c55
                                                have c55b1 : ((rd x10_5 a1) != 0) = false := bne_eq_false_iff_eq.mpr c55
                                                clear c55
                                                obtain rfl := Option.some.inj H
                                                have p288 : 0 ≤ (x14_3 : Int) := of_decide_eq_true (by first | (with_reducible assumption) | assumption)
                                                have q288 : x14_3 < (l2.length : Int) := of_decide_eq_true (by first | (with_reducible assumption) | assumption)
                                                obtain ⟨ad288, e288, hx288_0, hx288_1⟩ := at_T59 HR2.out x14_3 p288 q288
                                                cases e288
                                                replace hx288_0 := (HB.out.cell (World.block_lt_of_cell? w _ hx288_0)).trans hx288_0
                                                replace hx288_1 := (HB.out.cell (World.block_lt_of_cell? w _ hx288_1)).trans hx288_1
                                                replace p288 := eq_true p288
                                                replace q288 := eq_true q288
                                                have hcz56_0 : wr.cell? ⟨gb270, 0, none⟩ = some (.slice A0_0 l0_0.length c0_0) := (blk_cell BK270.out 0).trans rfl
                                                have hcz56_1 : wr.cell? ⟨gb270, 1, none⟩ = some (.slice (some ad271) l0_1.length c0_1) := (blk_cell BK270.out 1).trans rfl
                                                have hcz56_2 : wr.cell? ⟨gb270, 2, none⟩ = some (.slice A0_2 l0_2.length c0_2) := (blk_cell BK270.out 2).trans rfl
                                                have hfz56_0 := blk_frozen BK270.out 0
                                                have hfz56_1 := blk_frozen BK270.out 1
                                                have hfz56_2 := blk_frozen BK270.out 2
                                                obtain ⟨Ao57, co57, eo57⟩ := Kd.R_slice HO_10.out
                                                subst eo57
                                                go_wp2_with (first | ((with_reducible refine gate_callee (f := 74) rfl ?_); refine goesL_ (some 89) rfl rfl Tryd.func74 (by kernel_rfl) rfl #[.agg #[.slice A0_0 l0_0.length c0_0, .slice (some ad271) l0_1.length c0_1, .slice A0_2 l0_2.length c0_2], .slice Ao57 x10_5.length co57] rfl (by (try simp only [List.map_toArray, List.map_cons, List.map_nil]); first | done | rfl | (simp only [List.length_drop, List.length_take]; rfl)) ?_; (with_reducible refine (wishbookref10_first.calls k5 _ _ l0_0 _ _ l0_1 _ _ l0_2 _ _ x10_5 t289 _ ?side1 ?side2 ?side3 ?side4 ?side5 ?side6 ?side7 ?side8 A35.out).mono ?_); (case side1 => repeat (first | exact (Kd.C_below HR0_0.out HB.out) | (with_reducible refine Kd.C_alloc ?_ _) | (with_reducible refine Kd.C_drewN ?_ _) | (with_reducible refine Kd.C_drew ?_))); (case side2 => exact HC0_0.out); (case side3 => repeat (first | exact (Kd.C_below HR0_1.out HB.out) | (with_reducible refine Kd.C_alloc ?_ _) | (with_reducible refine Kd.C_drewN ?_ _) | (with_reducible refine Kd.C_drew ?_))); (case side4 => exact HC0_1.out); (case side5 => repeat (first | exact (Kd.C_below HR0_2.out HB.out) | (with_reducible refine Kd.C_alloc ?_ _) | (with_reducible refine Kd.C_drewN ?_ _) | (with_reducible refine Kd.C_drew ?_))); (case side6 => exact HC0_2.out); (case side7 => repeat (first | exact (Kd.R_reads' HO_10.out).2.2 | (with_reducible refine Kd.C_alloc ?_ _) | (with_reducible refine Kd.C_drewN ?_ _) | (with_reducible refine Kd.C_drew ?_))); (case side8 => exact (Kd.R_reads' HO_10.out).2.1); rintro e w58 ⟨rfl, hb⟩; refine ⟨_, rfl, ?_⟩; have n0_ := Aside0.mk (Kd.R_below (by (with_reducible repeat (first | apply Kd.R_alloc | apply Kd.R_drewN | apply Kd.R_drew)); exact HO_10.out) hb); have n1_ := Aside0.mk (blk_below (g := gb270) (o := .cells #[.slice A0_0 l0_0.length c0_0, .slice (some ad271) l0_1.length c0_1, .slice A0_2 l0_2.length c0_2] 26 (0, 0)) (by (with_reducible repeat (first | refine blk_drewN ?_ _ | refine blk_drew ?_ | refine blk_alloc ?_ _)); exact BK270.out) hb); have n2_ := Aside0.mk (below_step (by repeat (first | (with_reducible first | exact HB.out | apply below_alloc | apply pw_below_drewN | apply below_drew1 | refine below_set ?_ GE270.out) | exact HB.out)) hb); clear HO_10; clear BK270; clear HB; have HO_10 := n0_; have BK270 := n1_; have HB := n2_; clear n0_ n1_ n2_; (try clear hb); (try clear hb2); (try clear hk); (try clear hi); have p293 : 0 ≤ (a1 : Int) := of_decide_eq_true (by first | (with_reducible assumption) | assumption); have q293 : a1 < (x10_5.length : Int) := of_decide_eq_true (by first | (with_reducible assumption) | assumption); obtain ⟨ad293, e293, hx293_0⟩ := Kd.at_int (Kd.R_reads' HO_10.out).2.2 a1 p293 q293; cases e293; replace p293 := eq_true p293; replace q293 := eq_true q293))
                                                go_ret
                                                exact ⟨by first | rfl | (simp [errW_none, errW_some] <;> rfl) | (simp [*, errW_none, errW_some] <;> rfl), by repeat (first | (with_reducible first | exact HB.out | apply below_alloc | apply pw_below_drewN | apply below_drew1 | refine below_set ?_ GE270.out) | exact HB.out)⟩
                                              · rw [if_neg c55] at H
                                                have c55b0 : ((rd x10_5 a1) == 0) = false := beq_eq_false_iff_ne.mpr c55
                                                have c55b1 : ((rd x10_5 a1) != 0) = true := bne_iff_ne.mpr c55
                                                have H' := Aside0.mk H
                                                clear H
                                                have p288 : 0 ≤ (x14_3 : Int) := of_decide_eq_true (by first | (with_reducible assumption) | assumption)
                                                have q288 : x14_3 < (l2.length : Int) := of_decide_eq_true (by first | (with_reducible assumption) | assumption)
                                                obtain ⟨ad288, e288, hx288_0, hx288_1⟩ := at_T59 HR2.out x14_3 p288 q288
                                                cases e288
                                                replace hx288_0 := (HB.out.cell (World.block_lt_of_cell? w _ hx288_0)).trans hx288_0
                                                replace hx288_1 := (HB.out.cell (World.block_lt_of_cell? w _ hx288_1)).trans hx288_1
                                                replace p288 := eq_true p288
                                                replace q288 := eq_true q288
                                                have hcz59_0 : wr.cell? ⟨gb270, 0, none⟩ = some (.slice A0_0 l0_0.length c0_0) := (blk_cell BK270.out 0).trans rfl
                                                have hcz59_1 : wr.cell? ⟨gb270, 1, none⟩ = some (.slice (some ad271) l0_1.length c0_1) := (blk_cell BK270.out 1).trans rfl
                                                have hcz59_2 : wr.cell? ⟨gb270, 2, none⟩ = some (.slice A0_2 l0_2.length c0_2) := (blk_cell BK270.out 2).trans rfl
                                                have hfz59_0 := blk_frozen BK270.out 0
                                                have hfz59_1 := blk_frozen BK270.out 1
                                                have hfz59_2 := blk_frozen BK270.out 2
                                                obtain ⟨Ao60, co60, eo60⟩ := Kd.R_slice HO_10.out
                                                subst eo60
                                                go_wp2_with (first | ((with_reducible refine gate_callee (f := 74) rfl ?_); refine goesL_ (some 89) rfl rfl Tryd.func74 (by kernel_rfl) rfl #[.agg #[.slice A0_0 l0_0.length c0_0, .slice (some ad271) l0_1.length c0_1, .slice A0_2 l0_2.length c0_2], .slice Ao60 x10_5.length co60] rfl (by (try simp only [List.map_toArray, List.map_cons, List.map_nil]); first | done | rfl | (simp only [List.length_drop, List.length_take]; rfl)) ?_; (with_reducible refine (wishbookref10_first.calls k5 _ _ l0_0 _ _ l0_1 _ _ l0_2 _ _ x10_5 t289 _ ?side1 ?side2 ?side3 ?side4 ?side5 ?side6 ?side7 ?side8 A35.out).mono ?_); (case side1 => repeat (first | exact (Kd.C_below HR0_0.out HB.out) | (with_reducible refine Kd.C_alloc ?_ _) | (with_reducible refine Kd.C_drewN ?_ _) | (with_reducible refine Kd.C_drew ?_))); (case side2 => exact HC0_0.out); (case side3 => repeat (first | exact (Kd.C_below HR0_1.out HB.out) | (with_reducible refine Kd.C_alloc ?_ _) | (with_reducible refine Kd.C_drewN ?_ _) | (with_reducible refine Kd.C_drew ?_))); (case side4 => exact HC0_1.out); (case side5 => repeat (first | exact (Kd.C_below HR0_2.out HB.out) | (with_reducible refine Kd.C_alloc ?_ _) | (with_reducible refine Kd.C_drewN ?_ _) | (with_reducible refine Kd.C_drew ?_))); (case side6 => exact HC0_2.out); (case side7 => repeat (first | exact (Kd.R_reads' HO_10.out).2.2 | (with_reducible refine Kd.C_alloc ?_ _) | (with_reducible refine Kd.C_drewN ?_ _) | (with_reducible refine Kd.C_drew ?_))); (case side8 => exact (Kd.R_reads' HO_10.out).2.1); rintro e w61 ⟨rfl, hb⟩; refine ⟨_, rfl, ?_⟩; have n0_ := Aside0.mk (Kd.R_below (by (with_reducible repeat (first | apply Kd.R_alloc | apply Kd.R_drewN | apply Kd.R_drew)); exact HO_10.out) hb); have n1_ := Aside0.mk (blk_below (g := gb270) (o := .cells #[.slice A0_0 l0_0.length c0_0, .slice (some ad271) l0_1.length c0_1, .slice A0_2 l0_2.length c0_2] 26 (0, 0)) (by (with_reducible repeat (first | refine blk_drewN ?_ _ | refine blk_drew ?_ | refine blk_alloc ?_ _)); exact BK270.out) hb); have n2_ := Aside0.mk (below_step (by repeat (first | (with_reducible first | exact HB.out | apply below_alloc | apply pw_below_drewN | apply below_drew1 | refine below_set ?_ GE270.out) | exact HB.out)) hb); clear HO_10; clear BK270; clear HB; have HO_10 := n0_; have BK270 := n1_; have HB := n2_; clear n0_ n1_ n2_; (try clear hb); (try clear hb2); (try clear hk); (try clear hi); have p293 : 0 ≤ (a1 : Int) := of_decide_eq_true (by first | (with_reducible assumption) | assumption); have q293 : a1 < (x10_5.length : Int) := of_decide_eq_true (by first | (with_reducible assumption) | assumption); obtain ⟨ad293, e293, hx293_0⟩ := Kd.at_int (Kd.R_reads' HO_10.out).2.2 a1 p293 q293; cases e293; replace p293 := eq_true p293; replace q293 := eq_true q293))
                                                go_roundg k5
                                                case measure => have := HK1.out; have := HK2.out; have := HK3.out; have := HJ24.out; have := HK5.out; omega
                                                case rel => exact ⟨(x10_5), (wrap64 (x15_5 + 1)), (by first | rfl | (simp; done) | (simp [*]; done)), H', ⟨by have := HK1.out; have := HK2.out; have := HK3.out; have := HJ24.out; have := HK5.out; omega⟩, ⟨by (with_reducible repeat (first | apply Kd.R_alloc | apply Kd.R_drewN | apply Kd.R_drew)); exact HO_10.out⟩, ⟨by (with_reducible repeat (first | refine blk_drewN ?_ _ | refine blk_drew ?_ | refine blk_alloc ?_ _)); exact BK270.out⟩, ⟨by repeat (first | (with_reducible first | exact HB.out | apply below_alloc | apply pw_below_drewN | apply below_drew1 | refine below_set ?_ GE270.out) | exact HB.out)⟩⟩
                                            · rw [if_neg c54] at H
                                              exact absurd H (by simp)
                                          · rw [if_neg c53] at H
                                            exact absurd H (by simp)
                                      · rw [if_neg c34] at H
                                        have c34b0 : decide (x15_5 < ((rd_T59 l2 x14_3).f1)) = false := decide_eq_false c34
                                        clear c34
                                        have H' := Aside0.mk H
                                        clear H
                                        have p288 : 0 ≤ (x14_3 : Int) := of_decide_eq_true (by first | (with_reducible assumption) | assumption)
                                        have q288 : x14_3 < (l2.length : Int) := of_decide_eq_true (by first | (with_reducible assumption) | assumption)
                                        obtain ⟨ad288, e288, hx288_0, hx288_1⟩ := at_T59 HR2.out x14_3 p288 q288
                                        cases e288
                                        replace hx288_0 := (HB.out.cell (World.block_lt_of_cell? w _ hx288_0)).trans hx288_0
                                        replace hx288_1 := (HB.out.cell (World.block_lt_of_cell? w _ hx288_1)).trans hx288_1
                                        replace p288 := eq_true p288
                                        replace q288 := eq_true q288
                                        go_wp2
                                        go_roundg k5
                                        case measure => have := HK1.out; have := HK2.out; have := HK3.out; have := HJ24.out; have := HK5.out; omega
                                        case rel => exact ⟨(x10_5), (wrap64 (x14_3 + 1)), (by first | rfl | (simp; done) | (simp [*]; done)), H', ⟨by have := HK1.out; have := HK2.out; have := HK3.out; have := HJ24.out; have := HK5.out; omega⟩, ⟨by (with_reducible repeat (first | apply Kd.R_alloc | apply Kd.R_drewN | apply Kd.R_drew)); exact HO_10.out⟩, ⟨by (with_reducible repeat (first | refine blk_drewN ?_ _ | refine blk_drew ?_ | refine blk_alloc ?_ _)); exact BK270.out⟩, ⟨by repeat (first | (with_reducible first | exact HB.out | apply below_alloc | apply pw_below_drewN | apply below_drew1 | refine below_set ?_ GE270.out) | exact HB.out)⟩⟩
                                    · rw [if_neg c33] at H
                                      exact absurd H (by simp)
                                  · rw [if_neg c32] at H
                                    exact absurd H (by simp)
                      · rw [if_neg c24] at H
                        have c24b0 : decide (x14_3 < (l2.length : Int)) = false := decide_eq_false c24
                        clear c24
                        have H' := Aside0.mk H
                        clear H
                        go_wp2
                        go_roundg k3
                        case measure => have := HK1.out; have := HK2.out; have := HK3.out; omega
                        case rel => exact ⟨(x10_3), (wrap64 (x13_2 + 1)), (by first | rfl | (simp; done) | (simp [*]; done)), H', ⟨by have := HK1.out; have := HK2.out; have := HK3.out; omega⟩, ⟨by (with_reducible repeat (first | apply Kd.R_alloc | apply Kd.R_drewN | apply Kd.R_drew)); exact HO_10.out⟩, ⟨by (with_reducible repeat (first | refine blk_drewN ?_ _ | refine blk_drew ?_ | refine blk_alloc ?_ _)); exact BK270.out⟩, ⟨by repeat (first | (with_reducible first | exact HB.out | apply below_alloc | apply pw_below_drewN | apply below_drew1 | refine below_set ?_ GE270.out) | exact HB.out)⟩⟩
                · rw [if_neg c23] at H
                  have c23b0 : decide (x13_2 ≤ 100) = false := decide_eq_false c23
                  clear c23
                  obtain rfl := Option.some.inj H
                  go_wp2
                  go_ret
                  exact ⟨by first | rfl | (simp [errW_none, errW_some] <;> rfl) | (simp [*, errW_none, errW_some] <;> rfl), by repeat (first | (with_reducible first | exact HB.out | apply below_alloc | apply pw_below_drewN | apply below_drew1 | refine below_set ?_ GE270.out) | exact HB.out)⟩
    · rw [if_neg c5] at H
      exact absurd H (by simp)
  · rw [if_neg c4] at H
    exact absurd H (by simp)
end Go.Proofs.YtegpepnmnlockaaDoor.PL
namespace Go.Proofs.YtegpepnmnlockaaDoor.PL
open Go.RowKit Go.Proofs.YtegpepnmnlockaaDoorW.PrintWords Go.Proofs.YtegpepnmnlockaaDoorW.PrintLast Go.Proofs.YtegpepnmnlockaaDoorW.PrintMore
set_option linter.unusedVariables false
set_option linter.unusedSimpArgs false
theorem rd_put (xs : List Int) {j : Nat} (v : Int) (hj : j < xs.length) (i : Nat) : rd (xs.set j v) i = if i = j then v else rd xs i := by
  unfold rd
  rw [Int.toNat_natCast, List.getD_eq_getElem?_getD, List.getD_eq_getElem?_getD, List.getElem?_set]
  by_cases h : j = i
  · rw [if_pos h, if_pos hj, if_pos h.symm]; rfl
  · rw [if_neg h, if_neg (Ne.symm h)]
theorem rd_app (xs : List Int) (v : Int) (i : Nat) (hi : i ≤ xs.length) : rd (xs ++ [v]) i = if i = xs.length then v else rd xs i := by
  unfold rd
  rw [Int.toNat_natCast, List.getD_eq_getElem?_getD, List.getD_eq_getElem?_getD]
  by_cases h : i = xs.length
  · rw [if_pos h, h, List.getElem?_append_right (Nat.le_refl _), Nat.sub_self]; rfl
  · rw [if_neg h, List.getElem?_append_left (by omega)]
/-- What still must come till a line is served. -/
def remG (l1 : List S47) (wt : List Int) (line : Nat) : Nat → Int
  | 0 => 0
  | i + 1 => remG l1 wt line i + if turnLe l1 i line then rd wt i else 0
def WOk (l1 : List S47) (wt : List Int) : Prop := wt.length = l1.length ∧ ∀ i : Nat, 0 ≤ rd wt i ∧ rd wt i ≤ 20
theorem remG_nonneg {l1 : List S47} {wt : List Int} (h : WOk l1 wt) (line : Nat) : ∀ n, 0 ≤ remG l1 wt line n
  | 0 => Int.le_refl _
  | n + 1 => by
    have ih := remG_nonneg h line n
    have := (h.2 n).1
    rw [remG]
    split <;> omega
theorem remG_ge {l1 : List S47} {wt : List Int} (h : WOk l1 wt) (line : Nat) : ∀ n, line < n → rd wt line ≤ remG l1 wt line n
  | n + 1, hn => by
    have h0 := remG_nonneg h line n
    have h1 := (h.2 n).1
    rw [remG]
    by_cases e : line = n
    · rw [← e, if_pos (show turnLe l1 line line from Or.inr ⟨rfl, Nat.le_refl _⟩)]
      rw [← e] at h0
      omega
    · have ih := remG_ge h line n (by omega)
      split <;> omega
theorem remG_zero {l1 : List S47} {wt : List Int} {line : Nat} : ∀ n, (∀ i : Nat, i < n → turnLe l1 i line → rd wt i = 0) → remG l1 wt line n = 0
  | 0, _ => rfl
  | n + 1, h => by
    rw [remG, remG_zero n (fun i hi => h i (by omega))]
    split
    · rw [h n (by omega) ‹_›]; rfl
    · rfl
theorem remG_put {l1 : List S47} {wt : List Int} {line j : Nat} (v : Int) (hj : j < wt.length) (ht : turnLe l1 j line) : ∀ n, remG l1 (wt.set j v) line n = remG l1 wt line n + if j < n then v - rd wt j else 0
  | 0 => by rw [remG, remG, if_neg (by omega)]; rfl
  | n + 1 => by
    rw [remG, remG, remG_put v hj ht n, rd_put wt v hj]
    by_cases e : n = j
    · subst e
      rw [if_pos ht, if_pos rfl, if_pos ht, if_neg (by omega), if_pos (by omega)]
      omega
    · rw [if_neg e]
      by_cases c : j < n
      · rw [if_pos c, if_pos (show j < n + 1 by omega)]; omega
      · rw [if_neg c, if_neg (show ¬ j < n + 1 by omega)]; omega
/-- The line that is served next, of the first n. -/
def FP (l1 : List S47) (wt : List Int) (n : Nat) (r : Int) : Prop := (r = -1 ∧ ∀ j : Nat, j < n → rd wt j ≤ 0) ∨ ∃ j : Nat, r = j ∧ j < n ∧ 0 < rd wt j ∧ ∀ i : Nat, i < n → 0 < rd wt i → turnLe l1 j i
section
variable (l0 : List Int) (l1 : List S47) (l2 : List S57)
theorem first_l0 (wt : List Int) (hl : l1.length ≤ 10) (hw : wt.length = l1.length) : ∀ (d i k : Nat) (out : Int), i + d = wt.length → d + 1 ≤ k → FP l1 wt i out → ∃ r, wishbookref10_first.l0 k wt out i l0 l1 l2 = some r ∧ FP l1 wt wt.length r
  | 0, i, k + 1, out, hi, hk, hp => by
    unfold wishbookref10_first.l0
    rw [if_neg (by omega)]
    rw [show i = wt.length by omega] at hp
    exact ⟨out, rfl, hp⟩
  | d + 1, i, k + 1, out, hi, hk, hp => by
    unfold wishbookref10_first.l0
    rw [if_pos (by omega), if_pos (by omega), wrap_succ (by omega)]
    by_cases c : rd wt i > 0
    · rw [if_pos c]
      rcases hp with ⟨rfl, hp⟩ | ⟨j, rfl, hj, hp, hm⟩
      · rw [if_pos (by omega)]
        refine first_l0 wt hl hw d (i + 1) k i (by omega) (by omega) (Or.inr ⟨i, rfl, by omega, c, fun m hm h0 => ?_⟩)
        by_cases e : m = i
        · rw [e]; exact Or.inr ⟨rfl, Nat.le_refl _⟩
        · have := hp m (by omega); omega
      · rw [if_neg (by omega), if_pos (by omega), if_pos (by omega), if_pos (by omega)]
        by_cases c2 : (rd_T47 l1 i).f3 < (rd_T47 l1 j).f3
        · rw [if_pos c2]
          refine first_l0 wt hl hw d (i + 1) k i (by omega) (by omega) (Or.inr ⟨i, rfl, by omega, c, fun m hm' h0 => ?_⟩)
          by_cases e : m = i
          · rw [e]; exact Or.inr ⟨rfl, Nat.le_refl _⟩
          · have := hm m (by omega) h0
            unfold turnLe at *
            omega
        · rw [if_neg c2]
          refine first_l0 wt hl hw d (i + 1) k j (by omega) (by omega) (Or.inr ⟨j, rfl, by omega, hp, fun m hm' h0 => ?_⟩)
          by_cases e : m = i
          · rw [e]
            unfold turnLe
            omega
          · exact hm m (by omega) h0
    · rw [if_neg c]
      refine first_l0 wt hl hw d (i + 1) k out (by omega) (by omega) ?_
      rcases hp with ⟨rfl, hp⟩ | ⟨j, rfl, hj, hp, hm⟩
      · refine Or.inl ⟨rfl, fun j hj => ?_⟩
        by_cases e : j = i
        · rw [e]; omega
        · exact hp j (by omega)
      · refine Or.inr ⟨j, rfl, by omega, hp, fun m hm' h0 => ?_⟩
        by_cases e : m = i
        · rw [e] at h0; omega
        · exact hm m (by omega) h0
theorem first_f (wt : List Int) (hl : l1.length ≤ 10) (hw : wt.length = l1.length) (k : Nat) (hk : l1.length + 1 ≤ k) : ∃ r, wishbookref10_first.f k l0 l1 l2 wt = some r ∧ FP l1 wt wt.length r :=
  first_l0 l0 l1 l2 wt hl hw wt.length 0 k (-1) (by omega) (by omega) (Or.inl ⟨rfl, fun j hj => by omega⟩)
/-- One piece comes. -/
theorem piece {wt : List Int} {line : Nat} {r : Int} (h : WOk l1 wt) (hline : line < l1.length) (hw : 0 < rd wt line) (hr : FP l1 wt wt.length r) :
    ∃ j : Nat, r = j ∧ j < wt.length ∧ 0 < rd wt j ∧ WOk l1 (wt.set j (rd wt j - 1)) ∧ remG l1 (wt.set j (rd wt j - 1)) line l1.length = remG l1 wt line l1.length - 1 ∧ (rd (wt.set j (rd wt j - 1)) line = 0 ↔ remG l1 (wt.set j (rd wt j - 1)) line l1.length = 0) := by
  obtain ⟨hlen, hb⟩ := h
  rcases hr with ⟨_, hr⟩ | ⟨j, rfl, hj, hp, hm⟩
  · have := hr line (by omega); omega
  have ht := hm line (by omega) hw
  have hok : WOk l1 (wt.set j (rd wt j - 1)) := by
    refine ⟨by rw [List.length_set]; exact hlen, fun i => ?_⟩
    have b1 := hb i
    have b2 := hb j
    rw [rd_put wt _ hj]
    split <;> omega
  have hrem : remG l1 (wt.set j (rd wt j - 1)) line l1.length = remG l1 wt line l1.length - 1 := by
    rw [remG_put _ hj ht, if_pos (by omega)]
    omega
  refine ⟨j, rfl, hj, hp, hok, hrem, fun h0 => ?_, fun h0 => ?_⟩
  · refine remG_zero _ fun i hi hti => ?_
    rw [rd_put wt _ hj] at h0
    have b1 := hb i
    by_cases e : line = j
    · rw [if_pos e] at h0
      rw [rd_put wt _ hj]
      by_cases e2 : i = j
      · rw [if_pos e2]; exact h0
      · rw [if_neg e2]
        by_cases e3 : 0 < rd wt i
        · have := hm i (by omega) e3
          unfold turnLe at *
          rw [e] at hti
          omega
        · omega
    · rw [if_neg e] at h0; omega
  · have h1 := remG_ge hok line l1.length hline
    have h2 := hok.2 line
    omega
theorem given_l3 (cm : List S59) (good d : Int) (line i : Nat) (hl : l1.length ≤ 10) (hline : line < l1.length) (hcl : cm.length ≤ 6) (hi : i < cm.length) (hm : (rd_T59 cm i).f1 ≤ 50) : ∀ (m n k : Nat) (wt : List Int), WOk l1 wt → 0 < rd wt line → (n : Int) + m = (rd_T59 cm i).f1 → m + 20 ≤ k →
    (remG l1 wt line l1.length ≤ m → wishbookref10_given.l3 k line cm good wt d i n l0 l1 l2 = some d) ∧
    (m < remG l1 wt line l1.length → ∃ wt', WOk l1 wt' ∧ 0 < rd wt' line ∧ remG l1 wt' line l1.length = remG l1 wt line l1.length - m ∧ wishbookref10_given.l3 k line cm good wt d i n l0 l1 l2 = wishbookref10_given.l2 (k - (m + 1)) line cm good wt' d (i + 1 : Nat) l0 l1 l2)
  | 0, n, k + 1, wt, h, hw, hn, hk => by
    have h1 := remG_ge h line l1.length hline
    refine ⟨fun h0 => by omega, fun _ => ⟨wt, h, hw, by omega, ?_⟩⟩
    rw [wishbookref10_given.l3, if_pos (by omega), if_pos (by omega), if_neg (by omega), wrap_succ (by omega)]
    rfl
  | m + 1, n, k + 1, wt, h, hw, hn, hk => by
    obtain ⟨r, e1, e2⟩ := first_f l0 l1 l2 wt hl h.1 k (by omega)
    obtain ⟨j, rfl, hj, hp, hok, hrem, hz⟩ := piece l1 h hline hw e2
    have hb := h.2 j
    have hlen := h.1
    have hv := hok.2 line
    have ih := given_l3 cm good d line i hl hline hcl hi hm m (n + 1) k (wt.set j (rd wt j - 1)) hok
    have e : wishbookref10_given.l3 (k + 1) line cm good wt d i n l0 l1 l2 = if rd (wt.set j (rd wt j - 1)) line = 0 then some d else wishbookref10_given.l3 k line cm good (wt.set j (rd wt j - 1)) d i (n + 1 : Nat) l0 l1 l2 := by
      rw [wishbookref10_given.l3, if_pos (by omega), if_pos (by omega), if_pos (by omega), e1, Option.bind_some, if_pos (by omega), if_pos (by omega), if_pos (by omega), Option.bind_some, if_pos (by omega), if_pos (by omega), Int.toNat_natCast, wrap_id (by omega) (by omega), wrap_succ (by omega)]
    rw [e]
    by_cases c : rd (wt.set j (rd wt j - 1)) line = 0
    · have := hz.1 c
      rw [if_pos c]
      exact ⟨fun _ => rfl, fun h0 => by omega⟩
    · rw [if_neg c]
      obtain ⟨i1, i2⟩ := ih (by omega) (by omega) (by omega)
      refine ⟨fun h0 => i1 (by omega), fun h0 => ?_⟩
      obtain ⟨wt', a1, a2, a3, a4⟩ := i2 (by omega)
      exact ⟨wt', a1, a2, by omega, by rw [a4, show k + 1 - (m + 1 + 1) = k - (m + 1) by omega]⟩
/-- How many pieces of a good come on a day, of the first n deliveries. -/
def dayCm (cm : List S59) (good d : Int) : Nat → Int
  | 0 => 0
  | i + 1 => dayCm cm good d i + if (rd_T57 l2 i).f0 = good ∧ (rd_T59 cm i).f0 = d then (rd_T59 cm i).f1 else 0
theorem dayCm_mono (cm : List S59) (good d : Int) (hc : ∀ i : Nat, i < cm.length → 0 ≤ (rd_T59 cm i).f1) (i : Nat) : ∀ e, i + e ≤ cm.length → dayCm l2 cm good d i ≤ dayCm l2 cm good d (i + e)
  | 0, _ => Int.le_refl _
  | e + 1, h => by
    have ih := dayCm_mono cm good d hc i e (by omega)
    have := hc (i + e) (by omega)
    rw [← Nat.add_assoc, dayCm]
    split <;> omega
theorem cameBy_day (cm : List S59) (good d : Int) : ∀ n, cameBy l2 cm good d n = cameBy l2 cm good (d - 1) n + dayCm l2 cm good d n
  | 0 => rfl
  | n + 1 => by
    rw [cameBy, cameBy, dayCm, cameBy_day cm good d n]
    split <;> split <;> split <;> omega
theorem given_l2 (cm : List S59) (good d : Int) (line : Nat) (hl : l1.length ≤ 10) (hline : line < l1.length) (hlen : cm.length = l2.length) (hl2 : l2.length ≤ 6) (hc : ∀ i : Nat, i < cm.length → 0 ≤ (rd_T59 cm i).f1 ∧ (rd_T59 cm i).f1 ≤ 50) (hd : 0 ≤ d ∧ d ≤ 100) : ∀ (e i k : Nat) (wt : List Int), WOk l1 wt → 0 < rd wt line → i + e = cm.length → 60 * e + 40 ≤ k →
    (remG l1 wt line l1.length ≤ dayCm l2 cm good d cm.length - dayCm l2 cm good d i → wishbookref10_given.l2 k line cm good wt d i l0 l1 l2 = some d) ∧
    (dayCm l2 cm good d cm.length - dayCm l2 cm good d i < remG l1 wt line l1.length → ∃ wt' k', k - 60 * e - 1 ≤ k' ∧ WOk l1 wt' ∧ 0 < rd wt' line ∧ remG l1 wt' line l1.length = remG l1 wt line l1.length - (dayCm l2 cm good d cm.length - dayCm l2 cm good d i) ∧ wishbookref10_given.l2 k line cm good wt d i l0 l1 l2 = wishbookref10_given.l1 k' line cm good wt' (d + 1) l0 l1 l2)
  | 0, i, k + 1, wt, h, hw, hi, hk => by
    have h1 := remG_ge h line l1.length hline
    have hie : i = cm.length := by omega
    subst hie
    refine ⟨fun h0 => by omega, fun _ => ⟨wt, k, by omega, h, hw, by omega, ?_⟩⟩
    rw [wishbookref10_given.l2, if_neg (by omega), wrap_id (by omega) (by omega)]
  | e + 1, i, k + 2, wt, h, hw, hi, hk => by
    have hci := hc i (by omega)
    have hmono := dayCm_mono l2 cm good d (fun i hi => (hc i hi).1) (i + 1) e (by omega)
    rw [show i + 1 + e = cm.length by omega] at hmono
    by_cases c : (rd_T57 l2 i).f0 = good ∧ (rd_T59 cm i).f0 = d
    · have es : dayCm l2 cm good d (i + 1) = dayCm l2 cm good d i + (rd_T59 cm i).f1 := by rw [dayCm, if_pos c]
      have h3 := given_l3 l0 l1 l2 cm good d line i hl hline (by omega) (by omega) hci.2 (rd_T59 cm i).f1.toNat 0 k wt h hw (by omega) (by omega)
      have ee : wishbookref10_given.l2 (k + 2) line cm good wt d i l0 l1 l2 = wishbookref10_given.l3 k line cm good wt d i (0 : Nat) l0 l1 l2 := by
        rw [wishbookref10_given.l2, if_pos (by omega), if_pos (by omega), if_pos (by omega), if_pos c.1, wishbookref10_given.j3, if_neg (by rw [c.2]; simp)]
        rfl
      rw [ee]
      by_cases c2 : remG l1 wt line l1.length ≤ (rd_T59 cm i).f1
      · have := h3.1 (by omega)
        exact ⟨fun _ => this, fun h0 => by omega⟩
      · obtain ⟨wt', a1, a2, a3, a4⟩ := h3.2 (by omega)
        obtain ⟨i1, i2⟩ := given_l2 cm good d line hl hline hlen hl2 hc hd e (i + 1) (k - ((rd_T59 cm i).f1.toNat + 1)) wt' a1 a2 (by omega) (by omega)
        rw [a4]
        refine ⟨fun h0 => i1 (by omega), fun h0 => ?_⟩
        obtain ⟨wt2, k', b1, b2, b3, b4, b5⟩ := i2 (by omega)
        clear i1 i2 h3
        exact ⟨wt2, k', by omega, b2, b3, by omega, b5⟩
    · have es : dayCm l2 cm good d (i + 1) = dayCm l2 cm good d i := by rw [dayCm, if_neg c]; omega
      have ee : wishbookref10_given.l2 (k + 2) line cm good wt d i l0 l1 l2 = wishbookref10_given.l2 k line cm good wt d (i + 1 : Nat) l0 l1 l2 := by
        rw [wishbookref10_given.l2, if_pos (by omega), if_pos (by omega), if_pos (by omega)]
        by_cases c1 : (rd_T57 l2 i).f0 = good
        · rw [if_pos c1, wishbookref10_given.j3, if_pos (by rw [bne_iff_ne]; exact fun h => c ⟨c1, h⟩), wrap_succ (by omega)]
        · rw [if_neg c1, wishbookref10_given.j3, if_pos rfl, wrap_succ (by omega)]
      obtain ⟨i1, i2⟩ := given_l2 cm good d line hl hline hlen hl2 hc hd e (i + 1) k wt h hw (by omega) (by omega)
      rw [ee]
      refine ⟨fun h0 => i1 (by omega), fun h0 => ?_⟩
      obtain ⟨wt2, k', b1, b2, b3, b4, b5⟩ := i2 (by omega)
      clear i1 i2
      exact ⟨wt2, k', by omega, b2, b3, by omega, b5⟩
theorem given_l1 (cm : List S59) (good need : Int) (line : Nat) (hl : l1.length ≤ 10) (hline : line < l1.length) (hlen : cm.length = l2.length) (hl2 : l2.length ≤ 6) (hc : ∀ i : Nat, i < cm.length → 0 ≤ (rd_T59 cm i).f1 ∧ (rd_T59 cm i).f1 ≤ 50) (hneed : need ≤ cameBy l2 cm good 100 cm.length) : ∀ (e d k : Nat) (wt : List Int), WOk l1 wt → 0 < rd wt line → d + e = 101 → 420 * e + 500 ≤ k → remG l1 wt line l1.length = need - cameBy l2 cm good ((d : Int) - 1) cm.length →
    wishbookref10_given.l1 k line cm good wt d l0 l1 l2 = some (dayF (fun d => cameBy l2 cm good d cm.length) need e d)
  | 0, d, k + 1, wt, h, hw, hi, hk, hr => by
    have h1 := remG_ge h line l1.length hline
    rw [show ((d : Int) - 1) = 100 by omega] at hr
    omega
  | e + 1, d, k + 1, wt, h, hw, hi, hk, hr => by
    have h2 := given_l2 l0 l1 l2 cm good d line hl hline hlen hl2 hc (by omega) cm.length 0 k wt h hw (by omega) (by omega)
    have hday := cameBy_day l2 cm good d cm.length
    have h0 : dayCm l2 cm good d 0 = 0 := rfl
    rw [wishbookref10_given.l1, if_pos (by omega), dayF]
    by_cases c : need ≤ cameBy l2 cm good d cm.length
    · rw [if_pos c]
      exact h2.1 (by omega)
    · rw [if_neg c]
      obtain ⟨wt', k', b1, b2, b3, b4, b5⟩ := h2.2 (by omega)
      refine Eq.trans b5 ?_
      have ih := given_l1 cm good need line hl hline hlen hl2 hc hneed e (d + 1) k' wt' b2 b3 (by omega) (by omega) (by
        rw [show (((d + 1 : Nat) : Int) - 1) = d by omega]
        omega)
      exact ih
theorem given_l0 (sh : List S49) (cm : List S59) (good : Int) (line : Nat) (hl : l1.length ≤ 10) (hs : sh.length = l1.length) : ∀ (d i k : Nat) (wt : List Int), i + d = sh.length → wt.length = i → (∀ j : Nat, j < i → rd wt j = if (rd_T47 l1 j).f1 = good then (rd_T49 sh j).f2 else 0) → d + 1 ≤ k →
    ∃ wt', wt'.length = sh.length ∧ (∀ j : Nat, j < sh.length → rd wt' j = if (rd_T47 l1 j).f1 = good then (rd_T49 sh j).f2 else 0) ∧ wishbookref10_given.l0 k line cm good sh wt i l0 l1 l2 = wishbookref10_given.l1 (k - (d + 1)) line cm good wt' (0 : Nat) l0 l1 l2
  | 0, i, k + 1, wt, hi, hw, hv, hk => by
    have hie : i = sh.length := by omega
    refine ⟨wt, by omega, fun j hj => hv j (by omega), ?_⟩
    rw [wishbookref10_given.l0, if_neg (by omega)]
    rfl
  | d + 1, i, k + 1, wt, hi, hw, hv, hk => by
    have step : ∀ v : Int, v = (if (rd_T47 l1 i).f1 = good then (rd_T49 sh i).f2 else 0) → (∀ j : Nat, j < i + 1 → rd (wt ++ [v]) j = if (rd_T47 l1 j).f1 = good then (rd_T49 sh j).f2 else 0) := fun v hve j hj => by
      rw [rd_app wt v j (by omega)]
      by_cases e : j = wt.length
      · rw [if_pos e, hve, e, hw]
      · rw [if_neg e]
        exact hv j (by omega)
    rw [wishbookref10_given.l0, if_pos (by omega), if_pos (by omega), if_pos (by omega), wrap_succ (by omega)]
    by_cases c : (rd_T47 l1 i).f1 = good
    · rw [if_pos c, if_pos (by omega)]
      obtain ⟨wt', a1, a2, a3⟩ := given_l0 sh cm good line hl hs d (i + 1) k (wt ++ [(rd_T49 sh i).f2]) (by omega) (by simp; omega) (step _ (by rw [if_pos c])) (by omega)
      exact ⟨wt', a1, a2, by rw [a3, show k + 1 - (d + 1 + 1) = k - (d + 1) by omega]⟩
    · rw [if_neg c, if_pos (by omega)]
      obtain ⟨wt', a1, a2, a3⟩ := given_l0 sh cm good line hl hs d (i + 1) k (wt ++ [0]) (by omega) (by simp; omega) (step _ (by rw [if_neg c])) (by omega)
      exact ⟨wt', a1, a2, by rw [a3, show k + 1 - (d + 1 + 1) = k - (d + 1) by omega]⟩
theorem remG_need (sh : List S49) (wt : List Int) (line : Nat) (h : ∀ j : Nat, j < sh.length → rd wt j = if (rd_T47 l1 j).f1 = (rd_T47 l1 line).f1 then (rd_T49 sh j).f2 else 0) : ∀ n, n ≤ sh.length → remG l1 wt line n = needG l1 sh line n
  | 0, _ => rfl
  | n + 1, hn => by
    rw [remG, needG, remG_need sh wt line h n (by omega), h n (by omega)]
    by_cases c1 : (rd_T47 l1 n).f1 = (rd_T47 l1 line).f1
    · by_cases c2 : turnLe l1 n line
      · rw [if_pos c2, if_pos c1, if_pos ⟨c1, c2⟩]
      · rw [if_neg c2, if_neg (show ¬ ((rd_T47 l1 n).f1 = (rd_T47 l1 line).f1 ∧ turnLe l1 n line) from fun h => c2 h.2)]
    · rw [if_neg c1, if_neg (show ¬ ((rd_T47 l1 n).f1 = (rd_T47 l1 line).f1 ∧ turnLe l1 n line) from fun h => c1 h.1)]
      split <;> rfl
theorem rserved (hf : Few l0 l1 l2) (hb : okB l0 l1 l2 = true) : wishbookref10_served.f l0 l1 l2 = some ((servF l0 l1 l2).2, (servF l0 l1 l2).1.take l0.length) := by
  unfold wishbookref10_served.f
  rw [if_pos hf, hb, if_pos rfl]
/-- The day on which the last listed piece of a line is there. -/
theorem given_f (hf : Few l0 l1 l2) (hb : okB l0 l1 l2 = true) (cm : List S59) (hlen : cm.length = l2.length) (hd : didAt l2 cm cm.length = true) (line : Nat) (hline : line < l1.length) (hls : 0 < (rd_T49 (servF l0 l1 l2).2 line).f2) (k : Nat) (hk : 43000 ≤ k) :
    wishbookref10_given.f k l0 l1 l2 line cm = some (thereF l1 l2 (servF l0 l1 l2).2 line cm) := by
  have f := okB_facts hb
  have hsl := (servF_len l1 l2 f.2.1).2
  have hbd := fun i => share_bd (servF_ok hb).2 i
  have hun := there_until hb hlen hd line hline
  have hx := okB_line hb hline
  unfold okLine at hx
  rw [there_plain l1 l2 (servF l0 l1 l2).2 line cm (fun i => (hbd i).1) hline hls]
  unfold wishbookref10_given.f
  rw [if_pos (by omega), if_pos (by omega), rserved l0 l1 l2 hf hb, Option.bind_some]
  obtain ⟨wt, a1, a2, a3⟩ := given_l0 l0 l1 l2 (servF l0 l1 l2).2 cm (rd_T47 l1 line).f1 line f.2.2.2.1 hsl (servF l0 l1 l2).2.length 0 k [] (by omega) rfl (fun j hj => by omega) (by omega)
  refine Eq.trans a3 ?_
  have hcb : ∀ i : Nat, i < cm.length → 0 ≤ (rd_T59 cm i).f1 ∧ (rd_T59 cm i).f1 ≤ 50 := fun i hi => by
    have h1 := didAt_bd hb hd hlen
    unfold rd_T59
    rw [Int.toNat_natCast, List.getD_eq_getElem?_getD, List.getElem?_eq_getElem hi]
    exact h1 _ (List.getElem_mem _)
  have hok : WOk l1 wt := by
    refine ⟨by omega, fun i => ?_⟩
    by_cases hi : i < (servF l0 l1 l2).2.length
    · have := hbd i
      rw [a2 i hi]
      split <;> omega
    · unfold rd
      rw [Int.toNat_natCast, List.getD_eq_getElem?_getD, List.getElem?_eq_none (by omega)]
      decide
  have hpos : 0 < rd wt line := by rw [a2 line (by omega), if_pos rfl]; exact hls
  have hmo : cameBy l2 cm (rd_T47 l1 line).f1 (rd_T47 l1 line).f3 cm.length ≤ cameBy l2 cm (rd_T47 l1 line).f1 100 cm.length := by
    have : ∀ n, n ≤ cm.length → cameBy l2 cm (rd_T47 l1 line).f1 (rd_T47 l1 line).f3 n ≤ cameBy l2 cm (rd_T47 l1 line).f1 100 n := fun n => by
      induction n with
      | zero => exact fun _ => Int.le_refl _
      | succ n ih =>
        intro hn
        have := ih (by omega)
        have := hcb n (by omega)
        rw [cameBy, cameBy]
        split <;> split <;> omega
    exact this _ (Nat.le_refl _)
  have hzero : cameBy l2 cm (rd_T47 l1 line).f1 (((0 : Nat) : Int) - 1) cm.length = 0 := by
    have : ∀ n, n ≤ cm.length → cameBy l2 cm (rd_T47 l1 line).f1 (((0 : Nat) : Int) - 1) n = 0 := fun n => by
      induction n with
      | zero => exact fun _ => rfl
      | succ n ih =>
        intro hn
        have h1 := ih (by omega)
        unfold didAt at hd
        rw [Bool.and_eq_true, List.all_eq_true] at hd
        have hx := hd.2 n (List.mem_range.2 (by omega))
        rw [Bool.and_eq_true, decide_eq_true_eq, decide_eq_true_eq] at hx
        have hy := okB_del hb (i := n) (by omega)
        unfold okDel at hy
        unfold inDay at hx
        rw [cameBy, h1, if_neg (by omega)]
        rfl
    exact this _ (Nat.le_refl _)
  exact given_l1 l0 l1 l2 cm (rd_T47 l1 line).f1 (needG l1 (servF l0 l1 l2).2 line l1.length) line f.2.2.2.1 hline hlen f.2.2.2.2.1 hcb (by omega) 101 0 _ wt hok hpos rfl (by omega) (by rw [hzero, remG_need l1 _ wt line a2 l1.length (by omega)]; omega)
end
end Go.Proofs.YtegpepnmnlockaaDoor.PL

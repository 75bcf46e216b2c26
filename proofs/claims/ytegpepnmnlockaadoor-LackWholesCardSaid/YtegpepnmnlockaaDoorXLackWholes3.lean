/- Part 3 of a proof: what the last text rests on. -/
import Derived.Test.YtegpepnmnlockaaDoorXLackWholes2
namespace Go.Proofs.YtegpepnmnlockaaDoor.PL
open Go.RowKit Go.Proofs.YtegpepnmnlockaaDoorW.PrintWords Go.Proofs.YtegpepnmnlockaaDoorW.PrintLast Go.Proofs.YtegpepnmnlockaaDoorW.PrintMore
set_option linter.unusedVariables false
set_option linter.unusedSimpArgs false
/-- The chapter's book. -/
def bk0 : List Int := [5, 2, 0]
def bk1 : List S47 := [⟨0, 0, 3, 10, -1⟩, ⟨0, 1, 4, 20, 0⟩, ⟨1, 2, 6, 30, -1⟩, ⟨2, 2, 5, 15, -1⟩, ⟨2, 0, 2, 40, -1⟩]
def bk2 : List S57 := [⟨2, ⟨5, 12⟩, ⟨4, 6⟩⟩, ⟨2, ⟨20, 28⟩, ⟨3, 9⟩⟩, ⟨0, ⟨30, 35⟩, ⟨1, 1⟩⟩]
def bkt : List S59 := [⟨6, 5⟩, ⟨20, 5⟩, ⟨30, 1⟩]
def bks : List S49 := [⟨3, 0, 0, 0⟩, ⟨2, 2, 0, 0⟩, ⟨0, 0, 6, 0⟩, ⟨0, 0, 1, 4⟩, ⟨0, 0, 1, 1⟩]
def bkp : List Int := [1, 0, 7]
def bkq : List Int := [1, 0, 4]
def bkw : List Int := [0]
def bkl : List Int := [0, 0, 0]
def bkb : List Int := [2, 3]
theorem book_val : wishbooklaw10_book.f = some (bk0, bk1, bk2) := by kernel_rfl
theorem then_val : wishbooklaw10_then.f = some bkt := by kernel_rfl
theorem shares_val : wishbooklaw10_shares.f = some bks := by kernel_rfl
theorem surely_val : lack_Surely.f bk0 bk1 bk2 2 28 = some (7, 0) := by kernel_rfl
theorem sharesL_val : lack_Shares.f bk0 bk1 bk2 = some (bks, 0) := by kernel_rfl
theorem missing_val : lack_Missing.f bk0 bk1 bk2 = some (bkp, bkq, 0) := by kernel_rfl
theorem whole_val : lack_Whole.f bk0 bk1 bk2 = some (bkw, 0) := by kernel_rfl
theorem left_val : lack_Left.f bk0 bk1 bk2 = some (bkl, 0) := by kernel_rfl
theorem bk_ok : okB bk0 bk1 bk2 = true := by kernel_rfl
theorem come_val : lack_Come.f bk0 bk1 bk2 2 bkt = some (20, 0) := by
  have h : lack_Come.f bk0 bk1 bk2 2 bkt = some (thereF bk1 bk2 (servF bk0 bk1 bk2).2 2 bkt, 0) := by kernel_rfl
  have hp : 0 < (rd_T49 (servF bk0 bk1 bk2).2 (2 : Nat)).f2 := of_decide_eq_true (by kernel_rfl)
  have hv : dayF (fun d => cameBy bk2 bkt (rd_T47 bk1 (2 : Nat)).f1 d bkt.length) (needG bk1 (servF bk0 bk1 bk2).2 2 bk1.length) 101 0 = 20 := by kernel_rfl
  exact h.trans (congrArg (fun x => some (x, (0 : Int))) ((there_plain bk1 bk2 _ 2 bkt (fun i => (share_bd (servF_ok bk_ok).2 i).1) (by decide) hp).trans hv))
theorem last_val : lack_Last.f bk0 bk1 bk2 2 = some (28, 0) := by
  have h : lack_Last.f bk0 bk1 bk2 2 = some (thereF bk1 bk2 (servF bk0 bk1 bk2).2 2 (lastCame bk2), 0) := by kernel_rfl
  have hp : 0 < (rd_T49 (servF bk0 bk1 bk2).2 (2 : Nat)).f2 := of_decide_eq_true (by kernel_rfl)
  have hv : dayF (fun d => cameBy bk2 (lastCame bk2) (rd_T47 bk1 (2 : Nat)).f1 d (lastCame bk2).length) (needG bk1 (servF bk0 bk1 bk2).2 2 bk1.length) 101 0 = 28 := by kernel_rfl
  exact h.trans (congrArg (fun x => some (x, (0 : Int))) ((there_plain bk1 bk2 _ 2 (lastCame bk2) (fun i => (share_bd (servF_ok bk_ok).2 i).1) (by decide) hp).trans hv))
theorem late_val : lack_Late.f bk0 bk1 bk2 0 = some (3, 0) := by kernel_rfl
theorem broken_val : lack_Broken.f bk0 bk1 bk2 1 = some (bkb, 0) := by kernel_rfl
theorem same_val : wishbookref10_SameShares.f 20 bks bks = some true := by kernel_rfl
theorem matchp_val : wishbookref00_Match.f 20 bkp bkp = some true := by kernel_rfl
theorem matchq_val : wishbookref00_Match.f 20 bkq bkq = some true := by kernel_rfl
theorem matchw_val : wishbookref00_Match.f 20 bkw bkw = some true := by kernel_rfl
theorem matchl_val : wishbookref00_Match.f 20 bkl bkl = some true := by kernel_rfl
theorem matchb_val : wishbookref00_Match.f 20 bkb bkb = some true := by kernel_rfl
/-- The chapter's book, read. -/
def BookC (w : World) (A0 A1 A2 : Option Addr) (c0 c1 c2 : Nat) : Prop := Kd.C (Kd.int .i64) w A0 bk0.length bk0 ∧ bk0.length ≤ c0 ∧ Kd.C k47 w A1 bk1.length bk1 ∧ bk1.length ≤ c1 ∧ Kd.C k57 w A2 bk2.length bk2 ∧ bk2.length ≤ c2
theorem book_calls (w : World) : Calls Tryd.prog 43 #[] w fun e w' => ∃ A0 c0 A1 c1 A2 c2, e = .returned (.agg #[.slice A0 bk0.length c0, .slice A1 bk1.length c1, .slice A2 bk2.length c2]) ∧ BookC w' A0 A1 A2 c0 c1 c2 ∧ Below w.heap.size w w' :=
  (wishbooklaw10_book.calls bk0 bk1 bk2 w book_val).mono fun e w' ⟨v0, v1, v2, he, h0, h1, h2, hb⟩ => by
    obtain ⟨A0, c0, rfl, g0, r0⟩ := Kd.R_reads h0
    obtain ⟨A1, c1, rfl, g1, r1⟩ := Kd.R_reads h1
    obtain ⟨A2, c2, rfl, g2, r2⟩ := Kd.R_reads h2
    exact ⟨A0, c0, A1, c1, A2, c2, he, ⟨r0, g0, r1, g1, r2, g2⟩, hb⟩
theorem same_calls (A B : Option Addr) (c d : Nat) (W : World) (h1 : Kd.C k49 W A bks.length bks) (g1 : bks.length ≤ c) (h2 : Kd.C k49 W B bks.length bks) (g2 : bks.length ≤ d) :
    Calls Tryd.prog 37 #[.slice A bks.length c, .slice B bks.length d] W fun e w' => e = .returned (.bool true) ∧ Below W.heap.size W w' :=
  (wishbookref10_SameShares.calls 20 A c bks B d bks true W h1 g1 h2 g2 same_val).mono fun e w' ⟨he, nd, hw⟩ => ⟨he, by rw [hw]; exact pw_below_drewN (Below.refl _ _) nd⟩
theorem match_calls (A : Option Addr) (c p n : Nat) (xs : List Int) (W : World) (h1 : Kd.C (Kd.int .i64) W A xs.length xs) (g1 : xs.length ≤ c) (hp : W.heap[p]? = some (.cells (nums .i64 xs).toArray 3 (0, 0))) (hn : xs.length = n) (hm : n ≤ 1000) (hv : wishbookref00_Match.f 20 xs xs = some true) :
    Calls Tryd.prog 16 #[.slice A xs.length c, .slice (some ⟨p, 0, none⟩) n n] W fun e w' => e = .returned (.bool true) ∧ Below W.heap.size W w' := by
  have hV := Kd.V_reads' (nums_V (base := 0) hp hn (Nat.zero_le _) hm)
  subst hn
  exact (wishbookref00_Match.calls 20 A c xs (some ⟨p, 0, none⟩) xs.length xs true W h1 g1 hV.2.2 hV.2.1 hv).mono fun e w' ⟨he, nd, hw⟩ => ⟨he, by rw [hw]; exact pw_below_drewN (Below.refl _ _) nd⟩
def wishbooklaw10_listed.f : Option Bool := some true
set_option maxHeartbeats 8000000 in
set_option maxRecDepth 100000 in
theorem wishbooklaw10_listed.calls (r : Bool) (w : World) (hfa : Fates w) (h : wishbooklaw10_listed.f = some r) :
    Calls Tryd.prog 19 #[] w fun e w' => e = .returned (.bool r) ∧ Below w.heap.size w w' := by
  cases h
  have HFA := Aside0.mk hfa
  clear hfa
  have HB := Aside0.mk (Below.refl w.heap.size w)
  go_enter Tryd.func19, Tryd.ntmps19
  go_wp2_with (fail)
  refine (book_calls _).mono ?_
  rintro e w1 ⟨A0, c0, A1, c1, A2, c2, rfl, hbc, hb⟩
  have HB_ := Aside0.mk (below_step HB.out hb)
  clear HB hb
  have HB := HB_
  clear HB_
  have HC := Aside0.mk hbc
  clear hbc
  go_wp2_with (fail)
  refine (lack_Surely.calls A0 c0 bk0 A1 c1 bk1 A2 c2 bk2 2 28 7 0 _ HC.out.1 HC.out.2.1 HC.out.2.2.1 HC.out.2.2.2.1 HC.out.2.2.2.2.1 HC.out.2.2.2.2.2 (Fates.below HFA.out HB.out) surely_val).mono ?_
  rintro e w2 ⟨rfl, hb⟩
  have HB_ := Aside0.mk (below_step HB.out hb)
  clear HB hb
  have HB := HB_
  clear HB_
  clear HC
  go_wp2_with (fail)
  refine (book_calls _).mono ?_
  rintro e w1 ⟨A0, c0, A1, c1, A2, c2, rfl, hbc, hb⟩
  have HB_ := Aside0.mk (below_step HB.out hb)
  clear HB hb
  have HB := HB_
  clear HB_
  have HC := Aside0.mk hbc
  clear hbc
  go_wp2_with (fail)
  refine (lack_Shares.calls A0 c0 bk0 A1 c1 bk1 A2 c2 bk2 bks 0 _ HC.out.1 HC.out.2.1 HC.out.2.2.1 HC.out.2.2.2.1 HC.out.2.2.2.2.1 HC.out.2.2.2.2.2 (Fates.below HFA.out HB.out) sharesL_val).mono ?_
  rintro e w2 ⟨s, rfl, hs, hb⟩
  have HB_ := Aside0.mk (below_step HB.out hb)
  clear HB hb
  have HB := HB_
  clear HB_
  obtain ⟨As, cs, rfl⟩ := Kd.V_slice hs
  have HVs := Aside0.mk hs
  clear hs
  clear HC
  go_wp2_with (fail)
  refine (book_calls _).mono ?_
  rintro e w1 ⟨A0, c0, A1, c1, A2, c2, rfl, hbc, hb⟩
  have HVs_ := Aside0.mk (Kd.V_below HVs.out hb)
  clear HVs
  have HVs := HVs_
  clear HVs_
  have HB_ := Aside0.mk (below_step HB.out hb)
  clear HB hb
  have HB := HB_
  clear HB_
  have HC := Aside0.mk hbc
  clear hbc
  go_wp2_with (fail)
  refine (lack_Missing.calls A0 c0 bk0 A1 c1 bk1 A2 c2 bk2 bkp bkq 0 _ HC.out.1 HC.out.2.1 HC.out.2.2.1 HC.out.2.2.2.1 HC.out.2.2.2.2.1 HC.out.2.2.2.2.2 (Fates.below HFA.out HB.out) missing_val).mono ?_
  rintro e w2 ⟨p, q, rfl, hp, hq, hb⟩
  have HVs_ := Aside0.mk (Kd.V_below HVs.out hb)
  clear HVs
  have HVs := HVs_
  clear HVs_
  have HB_ := Aside0.mk (below_step HB.out hb)
  clear HB hb
  have HB := HB_
  clear HB_
  obtain ⟨Ap, cp, rfl⟩ := Kd.V_slice hp
  have HVp := Aside0.mk hp
  clear hp
  obtain ⟨Aq, cq, rfl⟩ := Kd.V_slice hq
  have HVq := Aside0.mk hq
  clear hq
  clear HC
  go_wp2_with (fail)
  refine (book_calls _).mono ?_
  rintro e w1 ⟨A0, c0, A1, c1, A2, c2, rfl, hbc, hb⟩
  have HVs_ := Aside0.mk (Kd.V_below HVs.out hb)
  clear HVs
  have HVs := HVs_
  clear HVs_
  have HVp_ := Aside0.mk (Kd.V_below HVp.out hb)
  clear HVp
  have HVp := HVp_
  clear HVp_
  have HVq_ := Aside0.mk (Kd.V_below HVq.out hb)
  clear HVq
  have HVq := HVq_
  clear HVq_
  have HB_ := Aside0.mk (below_step HB.out hb)
  clear HB hb
  have HB := HB_
  clear HB_
  have HC := Aside0.mk hbc
  clear hbc
  go_wp2_with (fail)
  refine (lack_Whole.calls A0 c0 bk0 A1 c1 bk1 A2 c2 bk2 bkw 0 _ HC.out.1 HC.out.2.1 HC.out.2.2.1 HC.out.2.2.2.1 HC.out.2.2.2.2.1 HC.out.2.2.2.2.2 (Fates.below HFA.out HB.out) whole_val).mono ?_
  rintro e w2 ⟨v, rfl, hv, hb⟩
  have HVs_ := Aside0.mk (Kd.V_below HVs.out hb)
  clear HVs
  have HVs := HVs_
  clear HVs_
  have HVp_ := Aside0.mk (Kd.V_below HVp.out hb)
  clear HVp
  have HVp := HVp_
  clear HVp_
  have HVq_ := Aside0.mk (Kd.V_below HVq.out hb)
  clear HVq
  have HVq := HVq_
  clear HVq_
  have HB_ := Aside0.mk (below_step HB.out hb)
  clear HB hb
  have HB := HB_
  clear HB_
  obtain ⟨Av, cv, rfl⟩ := Kd.V_slice hv
  have HVv := Aside0.mk hv
  clear hv
  clear HC
  go_wp2_with (fail)
  refine (wishbooklaw10_shares.calls bks _ shares_val).mono ?_
  rintro e w3 ⟨v3, rfl, ho3, hb⟩
  have HVs_ := Aside0.mk (Kd.V_below HVs.out hb)
  clear HVs
  have HVs := HVs_
  clear HVs_
  have HVp_ := Aside0.mk (Kd.V_below HVp.out hb)
  clear HVp
  have HVp := HVp_
  clear HVp_
  have HVq_ := Aside0.mk (Kd.V_below HVq.out hb)
  clear HVq
  have HVq := HVq_
  clear HVq_
  have HVv_ := Aside0.mk (Kd.V_below HVv.out hb)
  clear HVv
  have HVv := HVv_
  clear HVv_
  have HB_ := Aside0.mk (below_step HB.out hb)
  clear HB hb
  have HB := HB_
  clear HB_
  obtain ⟨A3, c3, rfl, g3, r3⟩ := Kd.R_reads ho3
  clear ho3
  go_wp2_with (fail)
  refine (same_calls As A3 cs c3 _ (Kd.V_reads' HVs.out).2.2 (Kd.V_reads' HVs.out).2.1 r3 g3).mono ?_
  rintro e w4 ⟨rfl, hb⟩
  have HVs_ := Aside0.mk (Kd.V_below HVs.out hb)
  clear HVs
  have HVs := HVs_
  clear HVs_
  have HVp_ := Aside0.mk (Kd.V_below HVp.out hb)
  clear HVp
  have HVp := HVp_
  clear HVp_
  have HVq_ := Aside0.mk (Kd.V_below HVq.out hb)
  clear HVq
  have HVq := HVq_
  clear HVq_
  have HVv_ := Aside0.mk (Kd.V_below HVv.out hb)
  clear HVv
  have HVv := HVv_
  clear HVv_
  have HB_ := Aside0.mk (below_step HB.out hb)
  clear HB hb
  have HB := HB_
  clear HB_
  clear HVs
  go_wp2_with (fail)
  refine (match_calls Ap cp _ 3 bkp _ (Kd.V_reads' (Kd.V_alloc HVp.out _)).2.2 (Kd.V_reads' HVp.out).2.1 (heap_alloc_new _ _) rfl (by decide) matchp_val).mono ?_
  rintro e w5 ⟨rfl, hb⟩
  clear HVp
  have HVq_ := Aside0.mk (Kd.V_below (Kd.V_alloc HVq.out _) hb)
  clear HVq
  have HVq := HVq_
  clear HVq_
  have HVv_ := Aside0.mk (Kd.V_below (Kd.V_alloc HVv.out _) hb)
  clear HVv
  have HVv := HVv_
  clear HVv_
  have HB_ := Aside0.mk (below_step (below_alloc HB.out _) hb)
  clear HB hb
  have HB := HB_
  clear HB_
  go_wp2_with (fail)
  refine (match_calls Aq cq _ 3 bkq _ (Kd.V_reads' (Kd.V_alloc HVq.out _)).2.2 (Kd.V_reads' HVq.out).2.1 (heap_alloc_new _ _) rfl (by decide) matchq_val).mono ?_
  rintro e w5 ⟨rfl, hb⟩
  clear HVq
  have HVv_ := Aside0.mk (Kd.V_below (Kd.V_alloc HVv.out _) hb)
  clear HVv
  have HVv := HVv_
  clear HVv_
  have HB_ := Aside0.mk (below_step (below_alloc HB.out _) hb)
  clear HB hb
  have HB := HB_
  clear HB_
  go_wp2_with (fail)
  refine (match_calls Av cv _ 1 bkw _ (Kd.V_reads' (Kd.V_alloc HVv.out _)).2.2 (Kd.V_reads' HVv.out).2.1 (heap_alloc_new _ _) rfl (by decide) matchw_val).mono ?_
  rintro e w5 ⟨rfl, hb⟩
  clear HVv
  have HB_ := Aside0.mk (below_step (below_alloc HB.out _) hb)
  clear HB hb
  have HB := HB_
  clear HB_
  go_wp2_with (fail)
  refine (book_calls _).mono ?_
  rintro e w1 ⟨A0, c0, A1, c1, A2, c2, rfl, hbc, hb⟩
  have HB_ := Aside0.mk (below_step HB.out hb)
  clear HB hb
  have HB := HB_
  clear HB_
  have HC := Aside0.mk hbc
  clear hbc
  go_wp2_with (fail)
  refine (lack_Left.calls A0 c0 bk0 A1 c1 bk1 A2 c2 bk2 bkl 0 _ HC.out.1 HC.out.2.1 HC.out.2.2.1 HC.out.2.2.2.1 HC.out.2.2.2.2.1 HC.out.2.2.2.2.2 (Fates.below HFA.out HB.out) left_val).mono ?_
  rintro e w2 ⟨l, rfl, hl, hb⟩
  have HB_ := Aside0.mk (below_step HB.out hb)
  clear HB hb
  have HB := HB_
  clear HB_
  obtain ⟨Al, cl, rfl⟩ := Kd.V_slice hl
  have HVl := Aside0.mk hl
  clear hl
  clear HC
  go_wp2_with (fail)
  refine (book_calls _).mono ?_
  rintro e w1 ⟨A0, c0, A1, c1, A2, c2, rfl, hbc, hb⟩
  have HVl_ := Aside0.mk (Kd.V_below HVl.out hb)
  clear HVl
  have HVl := HVl_
  clear HVl_
  have HB_ := Aside0.mk (below_step HB.out hb)
  clear HB hb
  have HB := HB_
  clear HB_
  have HC := Aside0.mk hbc
  clear hbc
  go_wp2_with (fail)
  refine (wishbooklaw10_then.calls bkt _ then_val).mono ?_
  rintro e w6 ⟨v6, rfl, ho6, hb⟩
  have HCn := Aside0.mk (show BookC _ A0 A1 A2 c0 c1 c2 from ⟨Kd.C_below HC.out.1 hb, HC.out.2.1, Kd.C_below HC.out.2.2.1 hb, HC.out.2.2.2.1, Kd.C_below HC.out.2.2.2.2.1 hb, HC.out.2.2.2.2.2⟩)
  clear HC
  have HC := HCn
  clear HCn
  have HVl_ := Aside0.mk (Kd.V_below HVl.out hb)
  clear HVl
  have HVl := HVl_
  clear HVl_
  have HB_ := Aside0.mk (below_step HB.out hb)
  clear HB hb
  have HB := HB_
  clear HB_
  obtain ⟨A6, c6, rfl, g6, r6⟩ := Kd.R_reads ho6
  clear ho6
  go_wp2_with (fail)
  refine (lack_Come.calls A0 c0 bk0 A1 c1 bk1 A2 c2 bk2 2 A6 c6 bkt 20 0 _ HC.out.1 HC.out.2.1 HC.out.2.2.1 HC.out.2.2.2.1 HC.out.2.2.2.2.1 HC.out.2.2.2.2.2 r6 g6 (Fates.below HFA.out HB.out) come_val).mono ?_
  rintro e w7 ⟨rfl, hb⟩
  have HVl_ := Aside0.mk (Kd.V_below HVl.out hb)
  clear HVl
  have HVl := HVl_
  clear HVl_
  have HB_ := Aside0.mk (below_step HB.out hb)
  clear HB hb
  have HB := HB_
  clear HB_
  clear HC
  go_wp2_with (fail)
  refine (book_calls _).mono ?_
  rintro e w1 ⟨A0, c0, A1, c1, A2, c2, rfl, hbc, hb⟩
  have HVl_ := Aside0.mk (Kd.V_below HVl.out hb)
  clear HVl
  have HVl := HVl_
  clear HVl_
  have HB_ := Aside0.mk (below_step HB.out hb)
  clear HB hb
  have HB := HB_
  clear HB_
  have HC := Aside0.mk hbc
  clear hbc
  go_wp2_with (fail)
  refine (lack_Last.calls A0 c0 bk0 A1 c1 bk1 A2 c2 bk2 2 28 0 _ HC.out.1 HC.out.2.1 HC.out.2.2.1 HC.out.2.2.2.1 HC.out.2.2.2.2.1 HC.out.2.2.2.2.2 (Fates.below HFA.out HB.out) last_val).mono ?_
  rintro e w2 ⟨rfl, hb⟩
  have HVl_ := Aside0.mk (Kd.V_below HVl.out hb)
  clear HVl
  have HVl := HVl_
  clear HVl_
  have HB_ := Aside0.mk (below_step HB.out hb)
  clear HB hb
  have HB := HB_
  clear HB_
  clear HC
  go_wp2_with (fail)
  refine (book_calls _).mono ?_
  rintro e w1 ⟨A0, c0, A1, c1, A2, c2, rfl, hbc, hb⟩
  have HVl_ := Aside0.mk (Kd.V_below HVl.out hb)
  clear HVl
  have HVl := HVl_
  clear HVl_
  have HB_ := Aside0.mk (below_step HB.out hb)
  clear HB hb
  have HB := HB_
  clear HB_
  have HC := Aside0.mk hbc
  clear hbc
  go_wp2_with (fail)
  refine (lack_Late.calls A0 c0 bk0 A1 c1 bk1 A2 c2 bk2 0 3 0 _ HC.out.1 HC.out.2.1 HC.out.2.2.1 HC.out.2.2.2.1 HC.out.2.2.2.2.1 HC.out.2.2.2.2.2 (Fates.below HFA.out HB.out) late_val).mono ?_
  rintro e w2 ⟨rfl, hb⟩
  have HVl_ := Aside0.mk (Kd.V_below HVl.out hb)
  clear HVl
  have HVl := HVl_
  clear HVl_
  have HB_ := Aside0.mk (below_step HB.out hb)
  clear HB hb
  have HB := HB_
  clear HB_
  clear HC
  go_wp2_with (fail)
  refine (book_calls _).mono ?_
  rintro e w1 ⟨A0, c0, A1, c1, A2, c2, rfl, hbc, hb⟩
  have HVl_ := Aside0.mk (Kd.V_below HVl.out hb)
  clear HVl
  have HVl := HVl_
  clear HVl_
  have HB_ := Aside0.mk (below_step HB.out hb)
  clear HB hb
  have HB := HB_
  clear HB_
  have HC := Aside0.mk hbc
  clear hbc
  go_wp2_with (fail)
  refine (lack_Broken.calls A0 c0 bk0 A1 c1 bk1 A2 c2 bk2 1 bkb 0 _ HC.out.1 HC.out.2.1 HC.out.2.2.1 HC.out.2.2.2.1 HC.out.2.2.2.2.1 HC.out.2.2.2.2.2 (Fates.below HFA.out HB.out) broken_val).mono ?_
  rintro e w2 ⟨b, rfl, hb, hb⟩
  have HVl_ := Aside0.mk (Kd.V_below HVl.out hb)
  clear HVl
  have HVl := HVl_
  clear HVl_
  have HB_ := Aside0.mk (below_step HB.out hb)
  clear HB hb
  have HB := HB_
  clear HB_
  obtain ⟨Ab, cb, rfl⟩ := Kd.V_slice hb
  have HVb := Aside0.mk hb
  clear hb
  clear HC
  go_wp2_with (fail)
  refine (match_calls Al cl _ 3 bkl _ (Kd.V_reads' (Kd.V_alloc HVl.out _)).2.2 (Kd.V_reads' HVl.out).2.1 (heap_alloc_new _ _) rfl (by decide) matchl_val).mono ?_
  rintro e w5 ⟨rfl, hb⟩
  clear HVl
  have HVb_ := Aside0.mk (Kd.V_below (Kd.V_alloc HVb.out _) hb)
  clear HVb
  have HVb := HVb_
  clear HVb_
  have HB_ := Aside0.mk (below_step (below_alloc HB.out _) hb)
  clear HB hb
  have HB := HB_
  clear HB_
  go_wp2_with (fail)
  refine (match_calls Ab cb _ 2 bkb _ (Kd.V_reads' (Kd.V_alloc HVb.out _)).2.2 (Kd.V_reads' HVb.out).2.1 (heap_alloc_new _ _) rfl (by decide) matchb_val).mono ?_
  rintro e w5 ⟨rfl, hb⟩
  clear HVb
  have HB_ := Aside0.mk (below_step (below_alloc HB.out _) hb)
  clear HB hb
  have HB := HB_
  clear HB_
  go_wp2

  go_ret
  exact ⟨rfl, HB.out⟩
end Go.Proofs.YtegpepnmnlockaaDoor.PL
namespace Go.Proofs.YtegpepnmnlockaaDoor.PL
open Go.RowKit Go.Proofs.YtegpepnmnlockaaDoorW.PrintWords Go.Proofs.YtegpepnmnlockaaDoorW.PrintLast Go.Proofs.YtegpepnmnlockaaDoorW.PrintMore
attribute [local go_sem] max2_int min2_int max_two min_two max_three min_three max_four min_four   -- for this text's walks alone
set_option linter.unusedVariables false
set_option linter.unusedSimpArgs false
def wishbookref10_Missing.l0 : Nat → List (S49) → List Int → List Int → Int → List Int → List (S47) → List (S57) → Option (List Int × List Int × Int)
  | 0, _, _, _, _, _, _, _ => none
  | k + 1, x6, x8, x9, x10, x124000, x124001, x124002 => if x10 < (x6.length : Int) then (if 0 ≤ x10 then (if x10 < (x124001.length : Int) then (if 0 ≤ ((rd_T47 x124001 x10).f1) then (if ((rd_T47 x124001 x10).f1) < (x8.length : Int) then (if ((rd_T47 x124001 x10).f1) < (x9.length : Int) then (wishbookref10_Missing.l0 k x6 (x8.set (((rd_T47 x124001 x10).f1) : Int).toNat (wrap64 ((rd x8 ((rd_T47 x124001 x10).f1)) + ((rd_T49 x6 x10).f2)))) (x9.set (((rd_T47 x124001 x10).f1) : Int).toNat (wrap64 ((rd x9 ((rd_T47 x124001 x10).f1)) + ((rd_T49 x6 x10).f3)))) (wrap64 (x10 + 1)) x124000 x124001 x124002) else (none)) else (none)) else (none)) else (none)) else (none)) else (some (x8, x9, 0))
def wishbookref10_Missing.f (k : Nat) (l0_0 : List Int) (l0_1 : List (S47)) (l0_2 : List (S57)) : Option (List Int × List Int × Int) := (wishbookref10_Check.f l0_0 l0_1 l0_2).bind fun t124 => (if t124 = 0 then ((wishbookref10_served.f l0_0 l0_1 l0_2).bind fun bt125 => (if 0 ≤ (l0_0.length : Int) then (if ((l0_0.length : Int) : Int).toNat ≤ 35184372088832 then (wishbookref10_Missing.l0 k bt125.1 (List.replicate ((l0_0.length : Int) : Int).toNat 0) (List.replicate ((l0_0.length : Int) : Int).toNat 0) 0 l0_0 l0_1 l0_2) else (none)) else (none))) else (some (([] : List Int), ([] : List Int), t124)))
theorem wishbookref10_Missing.mono_l : ∀ k, (∀ y0 y1 y2 y3 y4 y5 y6, LeO (wishbookref10_Missing.l0 k y0 y1 y2 y3 y4 y5 y6) (wishbookref10_Missing.l0 (k + 1) y0 y1 y2 y3 y4 y5 y6))
  | 0 => fun _ _ _ _ _ _ _ r h => by simp [wishbookref10_Missing.l0] at h
  | k + 1 => by
    have ih0 := wishbookref10_Missing.mono_l k
    · intro y0 y1 y2 y3 y4 y5 y6
      unfold wishbookref10_Missing.l0
      repeat' first
      | (with_reducible exact ih0 _ _ _ _ _ _ _)
      | (with_reducible exact LeO.refl _)
      | (with_reducible exact LeO.none _)
      | (with_reducible refine LeO.ite ?_ ?_)
      | (with_reducible refine LeO.bind ?_ (fun _ => ?_))
      | exact ih0 _ _ _ _ _ _ _
      | exact LeO.none _
      | refine LeO.ite ?_ ?_
      | refine LeO.bind ?_ (fun _ => ?_)
theorem wishbookref10_Missing.mono : ∀ a0 a1 a2 k, LeO (wishbookref10_Missing.f k a0 a1 a2) (wishbookref10_Missing.f (k + 1) a0 a1 a2) := by
  intro a0 a1 a2 k
  have ih0 := wishbookref10_Missing.mono_l k
  unfold wishbookref10_Missing.f
  repeat' first
      | (with_reducible exact ih0 _ _ _ _ _ _ _)
      | (with_reducible exact LeO.refl _)
      | (with_reducible exact LeO.none _)
      | (with_reducible refine LeO.ite ?_ ?_)
      | (with_reducible refine LeO.bind ?_ (fun _ => ?_))
      | exact ih0 _ _ _ _ _ _ _
      | exact LeO.none _
      | refine LeO.ite ?_ ?_
      | refine LeO.bind ?_ (fun _ => ?_)
def wishbookref10_Missing.T5 : Bool × List (List Nat × List Nat) := (true, [([], []), ([0], [0]), ([1], [1]), ([2, 2], [2]), ([], []), ([4], [4]), ([5], [5]), ([6, 6], [6]), ([3, 0, 1, 2, 3], [3]), ([7, 8, 0, 1, 2, 3, 4, 5, 6, 7, 8], [7])])
def wishbookref10_Missing.B5 : List Nat := [0, 1, 3, 7, 0, 16, 48, 112, 15, 511]
theorem wishbookref10_Missing.tab5 : rtab .any (opsOf Tryd.f15 5) = wishbookref10_Missing.T5 := by kernel_rfl
theorem wishbookref10_Missing.bits5 : waitsOk wishbookref10_Missing.T5.2 wishbookref10_Missing.B5 = true := by kernel_rfl
def wishbookref10_Missing.T9 : Bool × List (List Nat × List Nat) := (true, [([], []), ([], []), ([1], [1]), ([], []), ([2, 3], [2, 3]), ([4], [4]), ([5], [5]), ([0, 6], [0, 6]), ([7], [7]), ([], []), ([], []), ([9, 10], [9, 10]), ([11], [11]), ([12], [12]), ([8, 13], [8, 13]), ([0, 6, 0, 1, 2, 3, 4, 5, 6, 7, 8, 9, 10, 11, 12, 13, 14], [0, 6]), ([15, 14, 0, 1, 2, 3, 4, 5, 6, 7, 8, 9, 10, 11, 12, 13, 14], [14, 15])])
def wishbookref10_Missing.B9 : List Nat := [0, 0, 2, 0, 14, 30, 62, 127, 255, 0, 0, 1536, 3584, 7680, 16383, 32767, 65535]
theorem wishbookref10_Missing.tab9 : rtab .any (opsOf Tryd.f15 9) = wishbookref10_Missing.T9 := by kernel_rfl
theorem wishbookref10_Missing.bits9 : waitsOk wishbookref10_Missing.T9.2 wishbookref10_Missing.B9 = true := by kernel_rfl
def wishbookref10_Missing.T10 : Bool × List (List Nat × List Nat) := (true, [([], []), ([], []), ([1], [1]), ([], []), ([2, 3], [2, 3]), ([4], [4]), ([5], [5]), ([0, 6], [0, 6]), ([7], [7]), ([], []), ([], []), ([9, 10], [9, 10]), ([11], [11]), ([12], [12]), ([8, 13], [8, 13]), ([0, 6, 0, 1, 2, 3, 4, 5, 6, 7, 8, 9, 10, 11, 12, 13, 14], [0, 6]), ([15, 14, 0, 1, 2, 3, 4, 5, 6, 7, 8, 9, 10, 11, 12, 13, 14], [14, 15])])
def wishbookref10_Missing.B10 : List Nat := [0, 0, 2, 0, 14, 30, 62, 127, 255, 0, 0, 1536, 3584, 7680, 16383, 32767, 65535]
theorem wishbookref10_Missing.tab10 : rtab .any (opsOf Tryd.f15 10) = wishbookref10_Missing.T10 := by kernel_rfl
theorem wishbookref10_Missing.bits10 : waitsOk wishbookref10_Missing.T10.2 wishbookref10_Missing.B10 = true := by kernel_rfl
set_option maxHeartbeats 8000000 in
set_option maxRecDepth 100000 in
theorem wishbookref10_Missing.calls (k : Nat) (A0_0 : Option Addr) (c0_0 : Nat) (l0_0 : List Int) (A0_1 : Option Addr) (c0_1 : Nat) (l0_1 : List (S47)) (A0_2 : Option Addr) (c0_2 : Nat) (l0_2 : List (S57)) (r1 : List Int) (r2 : List Int) (r3 : Int) (w : World) (hr0_0 : Kd.C (Kd.int .i64) w A0_0 l0_0.length l0_0) (hc0_0 : l0_0.length ≤ c0_0) (hr0_1 : Kd.C k47 w A0_1 l0_1.length l0_1) (hc0_1 : l0_1.length ≤ c0_1) (hr0_2 : Kd.C k57 w A0_2 l0_2.length l0_2) (hc0_2 : l0_2.length ≤ c0_2) (h : wishbookref10_Missing.f k l0_0 l0_1 l0_2 = some (r1, r2, r3)) :
    Calls Tryd.prog 15 #[.agg #[.slice A0_0 l0_0.length c0_0, .slice A0_1 l0_1.length c0_1, .slice A0_2 l0_2.length c0_2]] w fun e w' => ∃ v0_ v1_ : Value, e = .returned (.tuple #[v0_, v1_, .int .i64 r3]) ∧ Kd.R (Kd.int .i64) 3 w' w.heap.size (fun k_ => some k_ ≠ (v1_ : Value).ownBlock) v0_ r1 ∧ Kd.R (Kd.int .i64) 3 w' w.heap.size (fun k_ => some k_ ≠ (v0_ : Value).ownBlock) v1_ r2 ∧ Below w.heap.size w w' := by
  have hu26 := Tryd.underlying26
  have HR0_0 := Aside0.mk hr0_0
  have HC0_0 := Aside0.mk hc0_0
  clear hr0_0 hc0_0
  have HR0_1 := Aside0.mk hr0_1
  have HC0_1 := Aside0.mk hc0_1
  clear hr0_1 hc0_1
  have HR0_2 := Aside0.mk hr0_2
  have HC0_2 := Aside0.mk hc0_2
  clear hr0_2 hc0_2
  have HB := Aside0.mk (Below.refl w.heap.size w)
  have H : ((wishbookref10_Check.f l0_0 l0_1 l0_2).bind fun t124 => (if t124 = 0 then ((wishbookref10_served.f l0_0 l0_1 l0_2).bind fun bt125 => (if 0 ≤ (l0_0.length : Int) then (if ((l0_0.length : Int) : Int).toNat ≤ 35184372088832 then (wishbookref10_Missing.l0 k bt125.1 (List.replicate ((l0_0.length : Int) : Int).toNat 0) (List.replicate ((l0_0.length : Int) : Int).toNat 0) 0 l0_0 l0_1 l0_2) else (none)) else (none))) else (some (([] : List Int), ([] : List Int), t124)))) = some (r1, r2, r3) := h
  clear h
  replace H := Option.bind_eq_some_iff.mp H
  obtain ⟨t124, A20, H⟩ := H
  replace H : (if t124 = 0 then ((wishbookref10_served.f l0_0 l0_1 l0_2).bind fun bt125 => (if 0 ≤ (l0_0.length : Int) then (if ((l0_0.length : Int) : Int).toNat ≤ 35184372088832 then (wishbookref10_Missing.l0 k bt125.1 (List.replicate ((l0_0.length : Int) : Int).toNat 0) (List.replicate ((l0_0.length : Int) : Int).toNat 0) 0 l0_0 l0_1 l0_2) else (none)) else (none))) else (some (([] : List Int), ([] : List Int), t124))) = some (r1, r2, r3) := H
  have A2 := Aside0.mk A20
  clear A20
  by_cases c3 : t124 = 0
  · rw [if_pos c3] at H
    have c3b0 : (t124 == 0) = true := beq_iff_eq.mpr c3
    have c3b1 : (t124 != 0) = false := bne_eq_false_iff_eq.mpr c3
    clear c3
    replace H := Option.bind_eq_some_iff.mp H
    obtain ⟨⟨t125, t128⟩, A40, H⟩ := H
    replace H : (if 0 ≤ (l0_0.length : Int) then (if ((l0_0.length : Int) : Int).toNat ≤ 35184372088832 then (wishbookref10_Missing.l0 k t125 (List.replicate ((l0_0.length : Int) : Int).toNat 0) (List.replicate ((l0_0.length : Int) : Int).toNat 0) 0 l0_0 l0_1 l0_2) else (none)) else (none)) = some (r1, r2, r3) := H
    have A4 := Aside0.mk A40
    clear A40
    by_cases c5 : 0 ≤ (l0_0.length : Int)
    · rw [if_pos c5] at H
      have c5b0 := eq_true c5
      have c5b1 : decide (0 ≤ (l0_0.length : Int)) = true := decide_eq_true c5
      clear c5
      by_cases c6 : ((l0_0.length : Int) : Int).toNat ≤ 35184372088832
      · rw [if_pos c6] at H
        have c6b0 := eq_true c6
        have c6b1 : decide (((l0_0.length : Int) : Int).toNat ≤ 35184372088832) = true := decide_eq_true c6
        clear c6
        obtain ⟨y131, hy131⟩ : ∃ y_ : List Int, y_ = (List.replicate ((l0_0.length : Int) : Int).toNat 0) := ⟨_, rfl⟩
        replace H : (wishbookref10_Missing.l0 k t125 y131 (List.replicate ((l0_0.length : Int) : Int).toNat 0) 0 l0_0 l0_1 l0_2) = some (r1, r2, r3) := by first | (rw [hy131]; with_reducible exact H) | (have H2_ := (Option.bind_some _ _).symm.trans H; rw [hy131]; with_reducible exact H2_) | (have H2_ := (Option.bind_some _ _).symm.trans H; with_reducible exact H2_) | with_reducible exact H | (rw [hy131]; exact H) | exact H
        have Ny131 := Aside0.mk hy131
        clear hy131
        obtain ⟨y134, hy134⟩ : ∃ y_ : List Int, y_ = (List.replicate ((l0_0.length : Int) : Int).toNat 0) := ⟨_, rfl⟩
        replace H : (wishbookref10_Missing.l0 k t125 y131 y134 0 l0_0 l0_1 l0_2) = some (r1, r2, r3) := by first | (rw [hy134]; with_reducible exact H) | (have H2_ := (Option.bind_some _ _).symm.trans H; rw [hy134]; with_reducible exact H2_) | (have H2_ := (Option.bind_some _ _).symm.trans H; with_reducible exact H2_) | with_reducible exact H | (rw [hy134]; exact H) | exact H
        have Ny134 := Aside0.mk hy134
        clear hy134
        have H' := Aside0.mk H
        clear H
        go_enter Tryd.func15, Tryd.ntmps15
        try go_wp2_with (first | ((with_reducible refine gate_dst (N := 1) rfl ?_); refine box_event ?hg (N := 1) ?hd (cs := #[.slice A0_0 l0_0.length c0_0, .slice A0_1 l0_1.length c0_1, .slice A0_2 l0_2.length c0_2]) (t := 26) ?hr ?_; (case hd => rfl); (case hg => rfl); (case hr => first | (go_simp; done) | (go_simp; rfl)); intro gb123 hg w7 hbox hb; have n0_ := Aside0.mk (below_step (by repeat (first | (with_reducible first | exact HB.out | apply below_alloc | apply pw_below_drewN | apply below_drew1) | exact HB.out)) hb); have n1_ := Aside0.mk (hbox); have n2_ := Aside0.mk ((by rw [hg]; exact (below_size (by repeat (first | (with_reducible first | exact HB.out | apply below_alloc | apply pw_below_drewN | apply below_drew1) | exact HB.out))) : w.heap.size ≤ gb123)); have n3_ := Aside0.mk ((by rw [hg]; exact (below_size (by repeat (first | (with_reducible first | exact HB.out | apply below_alloc | apply pw_below_drewN | apply below_drew1) | exact HB.out))) : w.heap.size ≤ gb123)); clear HB; have HB := n0_; have BK123 := n1_; have GW123 := n2_; have GE123 := n3_; clear n0_ n1_ n2_ n3_; clear hb hbox hg; have hcz8_0 : w7.cell? ⟨gb123, 0, none⟩ = some (.slice A0_0 l0_0.length c0_0) := (blk_cell BK123.out 0).trans rfl; have hcz8_1 : w7.cell? ⟨gb123, 1, none⟩ = some (.slice A0_1 l0_1.length c0_1) := (blk_cell BK123.out 1).trans rfl; have hcz8_2 : w7.cell? ⟨gb123, 2, none⟩ = some (.slice A0_2 l0_2.length c0_2) := (blk_cell BK123.out 2).trans rfl; have hfz8_0 := blk_frozen BK123.out 0; have hfz8_1 := blk_frozen BK123.out 1; have hfz8_2 := blk_frozen BK123.out 2) | ((with_reducible refine gate_callee (f := 47) rfl ?_); refine goesL_ (some 12) rfl rfl Tryd.func47 (by kernel_rfl) rfl #[.agg #[.slice A0_0 l0_0.length c0_0, .slice A0_1 l0_1.length c0_1, .slice A0_2 l0_2.length c0_2]] rfl (by (try simp only [List.map_toArray, List.map_cons, List.map_nil]); first | done | rfl | (simp only [List.length_drop, List.length_take]; rfl)) ?_; (with_reducible refine (wishbookref10_Check.calls _ _ l0_0 _ _ l0_1 _ _ l0_2 t124 _ ?side1 ?side2 ?side3 ?side4 ?side5 ?side6 A2.out).mono ?_); (case side1 => repeat (first | exact (Kd.C_below HR0_0.out HB.out) | (with_reducible refine Kd.C_alloc ?_ _) | (with_reducible refine Kd.C_drewN ?_ _) | (with_reducible refine Kd.C_drew ?_))); (case side2 => exact HC0_0.out); (case side3 => repeat (first | exact (Kd.C_below HR0_1.out HB.out) | (with_reducible refine Kd.C_alloc ?_ _) | (with_reducible refine Kd.C_drewN ?_ _) | (with_reducible refine Kd.C_drew ?_))); (case side4 => exact HC0_1.out); (case side5 => repeat (first | exact (Kd.C_below HR0_2.out HB.out) | (with_reducible refine Kd.C_alloc ?_ _) | (with_reducible refine Kd.C_drewN ?_ _) | (with_reducible refine Kd.C_drew ?_))); (case side6 => exact HC0_2.out); rintro e w9 ⟨rfl, hb⟩; refine ⟨_, rfl, ?_⟩; have n0_ := Aside0.mk (blk_below (g := gb123) (o := .cells #[.slice A0_0 l0_0.length c0_0, .slice A0_1 l0_1.length c0_1, .slice A0_2 l0_2.length c0_2] 26 (0, 0)) (by (with_reducible repeat (first | refine blk_drewN ?_ _ | refine blk_drew ?_ | refine blk_alloc ?_ _)); exact BK123.out) hb); have n1_ := Aside0.mk (below_step (by repeat (first | (with_reducible first | exact HB.out | apply below_alloc | apply pw_below_drewN | apply below_drew1 | refine below_set ?_ GE123.out) | exact HB.out)) hb); clear BK123; clear HB; have BK123 := n0_; have HB := n1_; clear n0_ n1_; (try clear hb); (try clear hb2); (try clear hk); (try clear hi); have hcz10_0 : w9.cell? ⟨gb123, 0, none⟩ = some (.slice A0_0 l0_0.length c0_0) := (blk_cell BK123.out 0).trans rfl; have hcz10_1 : w9.cell? ⟨gb123, 1, none⟩ = some (.slice A0_1 l0_1.length c0_1) := (blk_cell BK123.out 1).trans rfl; have hcz10_2 : w9.cell? ⟨gb123, 2, none⟩ = some (.slice A0_2 l0_2.length c0_2) := (blk_cell BK123.out 2).trans rfl; have hfz10_0 := blk_frozen BK123.out 0; have hfz10_1 := blk_frozen BK123.out 1; have hfz10_2 := blk_frozen BK123.out 2) | ((with_reducible refine gate_callee (f := 48) rfl ?_); refine goesL_ (some 18) rfl rfl Tryd.func48 (by kernel_rfl) rfl #[.agg #[.slice A0_0 l0_0.length c0_0, .slice A0_1 l0_1.length c0_1, .slice A0_2 l0_2.length c0_2]] rfl (by (try simp only [List.map_toArray, List.map_cons, List.map_nil]); first | done | rfl | (simp only [List.length_drop, List.length_take]; rfl)) ?_; (with_reducible refine (wishbookref10_served.calls _ _ l0_0 _ _ l0_1 _ _ l0_2 t125 t128 _ ?side1 ?side2 ?side3 ?side4 ?side5 ?side6 A4.out).mono ?_); (case side1 => repeat (first | exact (Kd.C_below HR0_0.out HB.out) | (with_reducible refine Kd.C_alloc ?_ _) | (with_reducible refine Kd.C_drewN ?_ _) | (with_reducible refine Kd.C_drew ?_))); (case side2 => exact HC0_0.out); (case side3 => repeat (first | exact (Kd.C_below HR0_1.out HB.out) | (with_reducible refine Kd.C_alloc ?_ _) | (with_reducible refine Kd.C_drewN ?_ _) | (with_reducible refine Kd.C_drew ?_))); (case side4 => exact HC0_1.out); (case side5 => repeat (first | exact (Kd.C_below HR0_2.out HB.out) | (with_reducible refine Kd.C_alloc ?_ _) | (with_reducible refine Kd.C_drewN ?_ _) | (with_reducible refine Kd.C_drew ?_))); (case side6 => exact HC0_2.out); rintro e w11 ⟨v126, v129, rfl, ho0, ho1, hb⟩; refine ⟨_, rfl, ?_⟩; have n0_ := Aside0.mk (Kd.R_lower ho0 (below_size (by repeat (first | (with_reducible first | exact HB.out | apply below_alloc | apply pw_below_drewN | apply below_drew1 | refine below_set ?_ GE123.out) | exact HB.out)))); have n1_ := Aside0.mk (Kd.R_lower ho1 (below_size (by repeat (first | (with_reducible first | exact HB.out | apply below_alloc | apply pw_below_drewN | apply below_drew1 | refine below_set ?_ GE123.out) | exact HB.out)))); have n2_ := Aside0.mk (blk_below (g := gb123) (o := .cells #[.slice A0_0 l0_0.length c0_0, .slice A0_1 l0_1.length c0_1, .slice A0_2 l0_2.length c0_2] 26 (0, 0)) (by (with_reducible repeat (first | refine blk_drewN ?_ _ | refine blk_drew ?_ | refine blk_alloc ?_ _)); exact BK123.out) hb); have n3_ := Aside0.mk (below_step (by repeat (first | (with_reducible first | exact HB.out | apply below_alloc | apply pw_below_drewN | apply below_drew1 | refine below_set ?_ GE123.out) | exact HB.out)) hb); clear BK123; clear HB; have HO127 := n0_; have HO130 := n1_; have BK123 := n2_; have HB := n3_; clear n0_ n1_ n2_ n3_; (try clear hb); (try clear hb2); (try clear hk); (try clear hi); (try clear ho0); (try clear ho1)))
        have n0_ := Aside0.mk (Kd.R_drew HO127.out)
        have n1_ := Aside0.mk (Kd.R_drew HO130.out)
        have n2_ := Aside0.mk (blk_drew BK123.out)
        have n3_ := Aside0.mk (below_drew1 HB.out)
        clear HO127
        clear HO130
        clear BK123
        clear HB
        have HO127 := n0_
        have HO130 := n1_
        have BK123 := n2_
        have HB := n3_
        clear n0_ n1_ n2_ n3_
        refine start_ (n := 10) (S := fun w' => w'.cell? ⟨gb123, 0, none⟩ = some (.slice A0_0 l0_0.length c0_0) ∧ w'.cell? ⟨gb123, 1, none⟩ = some (.slice A0_1 l0_1.length c0_1) ∧ w'.cell? ⟨gb123, 2, none⟩ = some (.slice A0_2 l0_2.length c0_2)) (ds := []) #[false, false, false, false, false, false, false, false, false, false] (by kernel_rfl) rfl rfl ⟨(blk_cell BK123.out 0).trans rfl, (blk_cell BK123.out 1).trans rfl, (blk_cell BK123.out 2).trans rfl⟩ (fun hHeld => ?_); refine with_tabW wishbookref10_Missing.tab5 wishbookref10_Missing.bits5 (fun HT_ HW_ => ?_)
        generalize w11.drew = w12 at HO127 HO130 BK123 HB hHeld ⊢
        refine pure_ (i := 0) (N := some 21) (v := ?_) (a' := ?_) #[true, false, false, false, false, false, false, false, false, false] rfl rfl (any_of HT_.out (by kernel_rfl)) (fun _ _ _ h => h) (Or.inl ⟨by rfl, ?_⟩) ?_ ?_
        rotate_left
        · intro w'
          go_simp
          with_reducible rfl
        rotate_left
        · simp only [Act.put, List.setIfInBounds_toArray, List.set_cons_zero, List.set_cons_succ, i64_w, i32_w]
          rfl
        refine pure_ (i := 4) (N := some 25) (v := ?_) (a' := ?_) #[true, false, false, false, true, false, false, false, false, false] rfl rfl (any_of HT_.out (by kernel_rfl)) (fun _ _ _ h => h) (Or.inl ⟨by rfl, ?_⟩) ?_ ?_
        rotate_left
        · intro w'
          go_simp
          with_reducible rfl
        rotate_left
        · simp only [Act.put, List.setIfInBounds_toArray, List.set_cons_zero, List.set_cons_succ, i64_w, i32_w]
          rfl
        refine take_ (i := 1) (N := some 22) (v := ?_) (a' := ?_) #[true, true, false, false, true, false, false, false, false, false] rfl rfl (take_ofW HT_.out HW_.out (by kernel_rfl)) (fun _ _ _ h => h) (Or.inl ⟨by rfl, ?_⟩) hHeld ?_ ?_
        rotate_left
        · rintro w' ⟨s0, s1, s2⟩
          go_simp
          with_reducible rfl
        rotate_left
        · simp only [Act.put, List.setIfInBounds_toArray, List.set_cons_zero, List.set_cons_succ, i64_w, i32_w]
          rfl
        refine pure_ (i := 2) (N := some 23) (v := ?_) (a' := ?_) #[true, true, true, false, true, false, false, false, false, false] rfl rfl (any_of HT_.out (by kernel_rfl)) (fun _ _ _ h => h) (Or.inl ⟨by rfl, ?_⟩) ?_ ?_
        rotate_left
        · intro w'
          go_simp
          with_reducible rfl
        rotate_left
        · simp only [Act.put, List.setIfInBounds_toArray, List.set_cons_zero, List.set_cons_succ, i64_w, i32_w]
          rfl
        refine take_ (i := 5) (N := some 26) (v := ?_) (a' := ?_) #[true, true, true, false, true, true, false, false, false, false] rfl rfl (take_ofW HT_.out HW_.out (by kernel_rfl)) (fun _ _ _ h => h) (Or.inl ⟨by rfl, ?_⟩) hHeld ?_ ?_
        rotate_left
        · rintro w' ⟨s0, s1, s2⟩
          go_simp
          with_reducible rfl
        rotate_left
        · simp only [Act.put, List.setIfInBounds_toArray, List.set_cons_zero, List.set_cons_succ, i64_w, i32_w]
          rfl
        refine pure_ (i := 6) (N := some 27) (v := ?_) (a' := ?_) #[true, true, true, false, true, true, true, false, false, false] rfl rfl (any_of HT_.out (by kernel_rfl)) (fun _ _ _ h => h) (Or.inl ⟨by rfl, ?_⟩) ?_ ?_
        rotate_left
        · intro w'
          go_simp
          with_reducible rfl
        rotate_left
        · simp only [Act.put, List.setIfInBounds_toArray, List.set_cons_zero, List.set_cons_succ, i64_w, i32_w]
          rfl
        refine join_ (σ := Value × Value) 1 #[true, true, true, true, true, true, true, true, true, false] (fun s_ => [(24, s_.1), (28, s_.2), (8, s_.1)]) (fun s_ w' => (w'.cell? ⟨gb123, 0, none⟩ = some (.slice A0_0 l0_0.length c0_0) ∧ w'.cell? ⟨gb123, 1, none⟩ = some (.slice A0_1 l0_1.length c0_1) ∧ w'.cell? ⟨gb123, 2, none⟩ = some (.slice A0_2 l0_2.length c0_2)) ∧ (Kd.R k49 49 w' w.heap.size (fun _ => True) v126 t125) ∧ (Kd.R (Kd.int .i64) 3 w' w.heap.size (fun k_ => some k_ ≠ (s_.1 : Value).ownBlock ∧ some k_ ≠ (s_.2 : Value).ownBlock) v129 t128) ∧ (Kd.R (Kd.int .i64) 3 w' w.heap.size (fun k_ => some k_ ≠ (v129 : Value).ownBlock ∧ some k_ ≠ (s_.2 : Value).ownBlock) s_.1 y131) ∧ (Kd.R (Kd.int .i64) 3 w' w.heap.size (fun k_ => some k_ ≠ (v129 : Value).ownBlock ∧ some k_ ≠ (s_.1 : Value).ownBlock) s_.2 y134) ∧ (w'.heap[gb123]? = some (.cells #[.slice A0_0 l0_0.length c0_0, .slice A0_1 l0_1.length c0_1, .slice A0_2 l0_2.length c0_2] 26 (0, 0))) ∧ (Below w.heap.size w w')) ?_ ?_
        rotate_left
        · intro hCont
          refine two_ (i := 3) (j := 7) (Ni := some 24) (Nj := some 28) #[true, true, true, true, true, true, true, false, false, false] #[true, true, true, false, true, true, true, true, false, false] rfl rfl rfl rfl (two_of HT_.out (by kernel_rfl)) (by decide) (by decide) (fun K hK => ?_) (fun K hK => ?_)
          · skip
            refine Kd.R_make_step (Kd.int .i64) _ 3 (by rfl) (N := 24) rfl 22 _ _ rfl (l0_0.length : Int) rfl rfl Tryd.underlying22 (.int .i64 0) 8 info3 rfl (by decide) (by omega) 0 (ok := fun _ => True) (okp := fun _ => True) rfl (fun _ hk => hk) trivial (of_decide_eq_true (by first | (with_reducible assumption) | assumption)) (Nat.le_trans (Nat.mul_le_mul_right _ (of_decide_eq_true (by first | (with_reducible assumption) | assumption) : (l0_0.length : Int).toNat ≤ 35184372088832)) (by omega)) (Below.refl _ _) (Nat.le_refl _) ?_
            intro v132 w13 ho14 hb hg_ hnew_
            clear hg_ hnew_
            (first | rw [← Ny131.out] at ho14 | (simp only [Int.reduceToNat] at ho14; rw [← Ny131.out] at ho14))
            have n0_ := Aside0.mk (Kd.R_below (by (with_reducible repeat (first | apply Kd.R_alloc | apply Kd.R_drewN | apply Kd.R_drew)); exact HO127.out) hb)
            have n1_ := Aside0.mk (Kd.R_elder' (by (with_reducible repeat (first | apply Kd.R_alloc | apply Kd.R_drewN | apply Kd.R_drew)); exact HO130.out) (Kd.R_base ho14) hb)
            have n2_ := Aside0.mk (Kd.R_lower (Kd.R_new' ho14 (Kd.R_lt (by (with_reducible repeat (first | apply Kd.R_alloc | apply Kd.R_drewN | apply Kd.R_drew)); exact HO130.out))) (below_size (by repeat (first | (with_reducible first | exact HB.out | apply below_alloc | apply pw_below_drewN | apply below_drew1 | refine below_set ?_ GE123.out) | exact HB.out))))
            have n3_ := Aside0.mk (blk_below (g := gb123) (o := .cells #[.slice A0_0 l0_0.length c0_0, .slice A0_1 l0_1.length c0_1, .slice A0_2 l0_2.length c0_2] 26 (0, 0)) (by (with_reducible repeat (first | refine blk_drewN ?_ _ | refine blk_drew ?_ | refine blk_alloc ?_ _)); exact BK123.out) hb)
            have n4_ := Aside0.mk (below_step (by repeat (first | (with_reducible first | exact HB.out | apply below_alloc | apply pw_below_drewN | apply below_drew1 | refine below_set ?_ GE123.out) | exact HB.out)) hb)
            clear HO127
            clear HO130
            clear BK123
            clear HB
            have HO127 := n0_
            have HO130 := n1_
            have HO133 := n2_
            have BK123 := n3_
            have HB := n4_
            clear n0_ n1_ n2_ n3_ n4_
            clear hb ho14
            refine hK.out _ _ ⟨(blk_cell BK123.out 0).trans rfl, (blk_cell BK123.out 1).trans rfl, (blk_cell BK123.out 2).trans rfl⟩ (fun hHeld => ?_)
            clear hK K
            refine norm_ (a' := ?_) ?_ ?_
            rotate_left
            · show Act.put _ (some 24) _ = _
              simp only [Act.put, List.setIfInBounds_toArray, List.set_cons_zero, List.set_cons_succ, i64_w, i32_w]
              rfl
            refine pure_ (i := 8) (N := some 8) (v := ?_) (a' := ?_) #[true, true, true, true, true, true, true, false, true, false] rfl rfl (any_of HT_.out (by kernel_rfl)) (fun _ _ _ h => h) (Or.inl ⟨by rfl, ?_⟩) ?_ ?_
            rotate_left
            · intro w'
              go_simp
              with_reducible rfl
            rotate_left
            · simp only [Act.put, List.setIfInBounds_toArray, List.set_cons_zero, List.set_cons_succ, i64_w, i32_w]
              rfl
            refine one_ (i := 7) (N := some 28) #[true, true, true, true, true, true, true, true, true, false] rfl rfl (one_of HT_.out (by kernel_rfl)) (by decide) (fun K hK => ?_)
            refine Kd.R_make_step (Kd.int .i64) _ 3 (by rfl) (N := 28) rfl 22 _ _ rfl (l0_0.length : Int) rfl rfl Tryd.underlying22 (.int .i64 0) 8 info3 rfl (by decide) (by omega) 0 (ok := fun _ => True) (okp := fun _ => True) rfl (fun _ hk => hk) trivial (of_decide_eq_true (by first | (with_reducible assumption) | assumption)) (Nat.le_trans (Nat.mul_le_mul_right _ (of_decide_eq_true (by first | (with_reducible assumption) | assumption) : (l0_0.length : Int).toNat ≤ 35184372088832)) (by omega)) (Below.refl _ _) (Nat.le_refl _) ?_
            intro v135 w15 ho16 hb hg_ hnew_
            clear hg_ hnew_
            (first | rw [← Ny134.out] at ho16 | (simp only [Int.reduceToNat] at ho16; rw [← Ny134.out] at ho16))
            have n0_ := Aside0.mk (Kd.R_below (by (with_reducible repeat (first | apply Kd.R_alloc | apply Kd.R_drewN | apply Kd.R_drew)); exact HO127.out) hb)
            have n1_ := Aside0.mk (Kd.R_elder' (by (with_reducible repeat (first | apply Kd.R_alloc | apply Kd.R_drewN | apply Kd.R_drew)); exact HO130.out) (Kd.R_base ho16) hb)
            have n2_ := Aside0.mk (Kd.R_elder' (by (with_reducible repeat (first | apply Kd.R_alloc | apply Kd.R_drewN | apply Kd.R_drew)); exact HO133.out) (Kd.R_base ho16) hb)
            have n3_ := Aside0.mk (Kd.R_lower (Kd.R_new' (Kd.R_new' ho16 (Kd.R_lt (by (with_reducible repeat (first | apply Kd.R_alloc | apply Kd.R_drewN | apply Kd.R_drew)); exact HO130.out))) (Kd.R_lt (by (with_reducible repeat (first | apply Kd.R_alloc | apply Kd.R_drewN | apply Kd.R_drew)); exact HO133.out))) (below_size (by repeat (first | (with_reducible first | exact HB.out | apply below_alloc | apply pw_below_drewN | apply below_drew1 | refine below_set ?_ GE123.out) | exact HB.out))))
            have n4_ := Aside0.mk (blk_below (g := gb123) (o := .cells #[.slice A0_0 l0_0.length c0_0, .slice A0_1 l0_1.length c0_1, .slice A0_2 l0_2.length c0_2] 26 (0, 0)) (by (with_reducible repeat (first | refine blk_drewN ?_ _ | refine blk_drew ?_ | refine blk_alloc ?_ _)); exact BK123.out) hb)
            have n5_ := Aside0.mk (below_step (by repeat (first | (with_reducible first | exact HB.out | apply below_alloc | apply pw_below_drewN | apply below_drew1 | refine below_set ?_ GE123.out) | exact HB.out)) hb)
            clear HO127
            clear HO130
            clear HO133
            clear BK123
            clear HB
            have HO127 := n0_
            have HO130 := n1_
            have HO133 := n2_
            have HO136 := n3_
            have BK123 := n4_
            have HB := n5_
            clear n0_ n1_ n2_ n3_ n4_ n5_
            clear hb ho16
            refine hK.out _ _ ⟨(blk_cell BK123.out 0).trans rfl, (blk_cell BK123.out 1).trans rfl, (blk_cell BK123.out 2).trans rfl⟩ (fun hHeld => ?_)
            clear hK K
            refine norm_ (a' := ?_) ?_ ?_
            rotate_left
            · show Act.put _ (some 28) _ = _
              simp only [Act.put, List.setIfInBounds_toArray, List.set_cons_zero, List.set_cons_succ, i64_w, i32_w]
              rfl
            exact norm_ (by simp only [putAll, Act.put, List.setIfInBounds_toArray, List.set_cons_zero, List.set_cons_succ]) (hCont (v132, v135) _ ⟨hHeld, (by (with_reducible repeat (first | apply Kd.R_alloc | apply Kd.R_drewN | apply Kd.R_drew)); exact HO127.out), (by (with_reducible repeat (first | apply Kd.R_alloc | apply Kd.R_drewN | apply Kd.R_drew)); exact Kd.R_mono HO130.out (fun _ hk => ⟨hk.1.2, hk.2⟩)), (by (with_reducible repeat (first | apply Kd.R_alloc | apply Kd.R_drewN | apply Kd.R_drew)); exact Kd.R_mono HO133.out (fun _ hk => ⟨hk.1.2, hk.2⟩)), (by (with_reducible repeat (first | apply Kd.R_alloc | apply Kd.R_drewN | apply Kd.R_drew)); exact Kd.R_mono HO136.out (fun _ hk => ⟨hk.1.2, hk.2⟩)), (by (with_reducible repeat (first | refine blk_drewN ?_ _ | refine blk_drew ?_ | refine blk_alloc ?_ _)); exact BK123.out), (by repeat (first | (with_reducible first | exact HB.out | apply below_alloc | apply pw_below_drewN | apply below_drew1 | refine below_set ?_ GE123.out) | exact HB.out))⟩)
          · skip
            refine Kd.R_make_step (Kd.int .i64) _ 3 (by rfl) (N := 28) rfl 22 _ _ rfl (l0_0.length : Int) rfl rfl Tryd.underlying22 (.int .i64 0) 8 info3 rfl (by decide) (by omega) 0 (ok := fun _ => True) (okp := fun _ => True) rfl (fun _ hk => hk) trivial (of_decide_eq_true (by first | (with_reducible assumption) | assumption)) (Nat.le_trans (Nat.mul_le_mul_right _ (of_decide_eq_true (by first | (with_reducible assumption) | assumption) : (l0_0.length : Int).toNat ≤ 35184372088832)) (by omega)) (Below.refl _ _) (Nat.le_refl _) ?_
            intro v135 w13 ho14 hb hg_ hnew_
            clear hg_ hnew_
            (first | rw [← Ny134.out] at ho14 | (simp only [Int.reduceToNat] at ho14; rw [← Ny134.out] at ho14))
            have n0_ := Aside0.mk (Kd.R_below (by (with_reducible repeat (first | apply Kd.R_alloc | apply Kd.R_drewN | apply Kd.R_drew)); exact HO127.out) hb)
            have n1_ := Aside0.mk (Kd.R_elder' (by (with_reducible repeat (first | apply Kd.R_alloc | apply Kd.R_drewN | apply Kd.R_drew)); exact HO130.out) (Kd.R_base ho14) hb)
            have n2_ := Aside0.mk (Kd.R_lower (Kd.R_new' ho14 (Kd.R_lt (by (with_reducible repeat (first | apply Kd.R_alloc | apply Kd.R_drewN | apply Kd.R_drew)); exact HO130.out))) (below_size (by repeat (first | (with_reducible first | exact HB.out | apply below_alloc | apply pw_below_drewN | apply below_drew1 | refine below_set ?_ GE123.out) | exact HB.out))))
            have n3_ := Aside0.mk (blk_below (g := gb123) (o := .cells #[.slice A0_0 l0_0.length c0_0, .slice A0_1 l0_1.length c0_1, .slice A0_2 l0_2.length c0_2] 26 (0, 0)) (by (with_reducible repeat (first | refine blk_drewN ?_ _ | refine blk_drew ?_ | refine blk_alloc ?_ _)); exact BK123.out) hb)
            have n4_ := Aside0.mk (below_step (by repeat (first | (with_reducible first | exact HB.out | apply below_alloc | apply pw_below_drewN | apply below_drew1 | refine below_set ?_ GE123.out) | exact HB.out)) hb)
            clear HO127
            clear HO130
            clear BK123
            clear HB
            have HO127 := n0_
            have HO130 := n1_
            have HO136 := n2_
            have BK123 := n3_
            have HB := n4_
            clear n0_ n1_ n2_ n3_ n4_
            clear hb ho14
            refine hK.out _ _ ⟨(blk_cell BK123.out 0).trans rfl, (blk_cell BK123.out 1).trans rfl, (blk_cell BK123.out 2).trans rfl⟩ (fun hHeld => ?_)
            clear hK K
            refine norm_ (a' := ?_) ?_ ?_
            rotate_left
            · show Act.put _ (some 28) _ = _
              simp only [Act.put, List.setIfInBounds_toArray, List.set_cons_zero, List.set_cons_succ, i64_w, i32_w]
              rfl
            refine one_ (i := 3) (N := some 24) #[true, true, true, true, true, true, true, true, false, false] rfl rfl (one_of HT_.out (by kernel_rfl)) (by decide) (fun K hK => ?_)
            refine Kd.R_make_step (Kd.int .i64) _ 3 (by rfl) (N := 24) rfl 22 _ _ rfl (l0_0.length : Int) rfl rfl Tryd.underlying22 (.int .i64 0) 8 info3 rfl (by decide) (by omega) 0 (ok := fun _ => True) (okp := fun _ => True) rfl (fun _ hk => hk) trivial (of_decide_eq_true (by first | (with_reducible assumption) | assumption)) (Nat.le_trans (Nat.mul_le_mul_right _ (of_decide_eq_true (by first | (with_reducible assumption) | assumption) : (l0_0.length : Int).toNat ≤ 35184372088832)) (by omega)) (Below.refl _ _) (Nat.le_refl _) ?_
            intro v132 w15 ho16 hb hg_ hnew_
            clear hg_ hnew_
            (first | rw [← Ny131.out] at ho16 | (simp only [Int.reduceToNat] at ho16; rw [← Ny131.out] at ho16))
            have n0_ := Aside0.mk (Kd.R_below (by (with_reducible repeat (first | apply Kd.R_alloc | apply Kd.R_drewN | apply Kd.R_drew)); exact HO127.out) hb)
            have n1_ := Aside0.mk (Kd.R_elder' (by (with_reducible repeat (first | apply Kd.R_alloc | apply Kd.R_drewN | apply Kd.R_drew)); exact HO130.out) (Kd.R_base ho16) hb)
            have n2_ := Aside0.mk (Kd.R_elder' (by (with_reducible repeat (first | apply Kd.R_alloc | apply Kd.R_drewN | apply Kd.R_drew)); exact HO136.out) (Kd.R_base ho16) hb)
            have n3_ := Aside0.mk (Kd.R_lower (Kd.R_new' (Kd.R_new' ho16 (Kd.R_lt (by (with_reducible repeat (first | apply Kd.R_alloc | apply Kd.R_drewN | apply Kd.R_drew)); exact HO130.out))) (Kd.R_lt (by (with_reducible repeat (first | apply Kd.R_alloc | apply Kd.R_drewN | apply Kd.R_drew)); exact HO136.out))) (below_size (by repeat (first | (with_reducible first | exact HB.out | apply below_alloc | apply pw_below_drewN | apply below_drew1 | refine below_set ?_ GE123.out) | exact HB.out))))
            have n4_ := Aside0.mk (blk_below (g := gb123) (o := .cells #[.slice A0_0 l0_0.length c0_0, .slice A0_1 l0_1.length c0_1, .slice A0_2 l0_2.length c0_2] 26 (0, 0)) (by (with_reducible repeat (first | refine blk_drewN ?_ _ | refine blk_drew ?_ | refine blk_alloc ?_ _)); exact BK123.out) hb)
            have n5_ := Aside0.mk (below_step (by repeat (first | (with_reducible first | exact HB.out | apply below_alloc | apply pw_below_drewN | apply below_drew1 | refine below_set ?_ GE123.out) | exact HB.out)) hb)
            clear HO127
            clear HO130
            clear HO136
            clear BK123
            clear HB
            have HO127 := n0_
            have HO130 := n1_
            have HO136 := n2_
            have HO133 := n3_
            have BK123 := n4_
            have HB := n5_
            clear n0_ n1_ n2_ n3_ n4_ n5_
            clear hb ho16
            refine hK.out _ _ ⟨(blk_cell BK123.out 0).trans rfl, (blk_cell BK123.out 1).trans rfl, (blk_cell BK123.out 2).trans rfl⟩ (fun hHeld => ?_)
            clear hK K
            refine norm_ (a' := ?_) ?_ ?_
            rotate_left
            · show Act.put _ (some 24) _ = _
              simp only [Act.put, List.setIfInBounds_toArray, List.set_cons_zero, List.set_cons_succ, i64_w, i32_w]
              rfl
            refine pure_ (i := 8) (N := some 8) (v := ?_) (a' := ?_) #[true, true, true, true, true, true, true, true, true, false] rfl rfl (any_of HT_.out (by kernel_rfl)) (fun _ _ _ h => h) (Or.inl ⟨by rfl, ?_⟩) ?_ ?_
            rotate_left
            · intro w'
              go_simp
              with_reducible rfl
            rotate_left
            · simp only [Act.put, List.setIfInBounds_toArray, List.set_cons_zero, List.set_cons_succ, i64_w, i32_w]
              rfl
            exact norm_ (by simp only [putAll, Act.put, List.setIfInBounds_toArray, List.set_cons_zero, List.set_cons_succ]) (hCont (v132, v135) _ ⟨hHeld, (by (with_reducible repeat (first | apply Kd.R_alloc | apply Kd.R_drewN | apply Kd.R_drew)); exact HO127.out), (by (with_reducible repeat (first | apply Kd.R_alloc | apply Kd.R_drewN | apply Kd.R_drew)); exact Kd.R_mono HO130.out (fun _ hk => ⟨hk.2, hk.1.2⟩)), (by (with_reducible repeat (first | apply Kd.R_alloc | apply Kd.R_drewN | apply Kd.R_drew)); exact Kd.R_mono HO133.out (fun _ hk => ⟨hk.1.2, hk.2⟩)), (by (with_reducible repeat (first | apply Kd.R_alloc | apply Kd.R_drewN | apply Kd.R_drew)); exact Kd.R_mono HO136.out (fun _ hk => ⟨hk.1.2, hk.2⟩)), (by (with_reducible repeat (first | refine blk_drewN ?_ _ | refine blk_drew ?_ | refine blk_alloc ?_ _)); exact BK123.out), (by repeat (first | (with_reducible first | exact HB.out | apply below_alloc | apply pw_below_drewN | apply below_drew1 | refine below_set ?_ GE123.out) | exact HB.out))⟩)
        rintro ⟨v132, v135⟩ w17 ⟨hS_, h0_, h1_, h2_, h3_, h4_, h5_⟩
        have n0_ : Aside0 (Kd.R k49 49 w17 w.heap.size (fun _ => True) v126 t125) := ⟨h0_⟩
        have n1_ : Aside0 (Kd.R (Kd.int .i64) 3 w17 w.heap.size (fun k_ => some k_ ≠ (v132 : Value).ownBlock ∧ some k_ ≠ (v135 : Value).ownBlock) v129 t128) := ⟨h1_⟩
        have n2_ : Aside0 (Kd.R (Kd.int .i64) 3 w17 w.heap.size (fun k_ => some k_ ≠ (v129 : Value).ownBlock ∧ some k_ ≠ (v135 : Value).ownBlock) v132 y131) := ⟨h2_⟩
        have n3_ : Aside0 (Kd.R (Kd.int .i64) 3 w17 w.heap.size (fun k_ => some k_ ≠ (v129 : Value).ownBlock ∧ some k_ ≠ (v132 : Value).ownBlock) v135 y134) := ⟨h3_⟩
        have n4_ : Aside0 (w17.heap[gb123]? = some (.cells #[.slice A0_0 l0_0.length c0_0, .slice A0_1 l0_1.length c0_1, .slice A0_2 l0_2.length c0_2] 26 (0, 0))) := ⟨h4_⟩
        have n5_ : Aside0 (Below w.heap.size w w17) := ⟨h5_⟩
        clear HO127
        clear HO130
        clear BK123
        clear HB
        clear h0_ h1_ h2_ h3_ h4_ h5_
        have HO127 := n0_
        have HO130 := n1_
        have HO133 := n2_
        have HO136 := n3_
        have BK123 := n4_
        have HB := n5_
        clear n0_ n1_ n2_ n3_ n4_ n5_
        have hHeld : w17.cell? ⟨gb123, 0, none⟩ = some (.slice A0_0 l0_0.length c0_0) ∧ w17.cell? ⟨gb123, 1, none⟩ = some (.slice A0_1 l0_1.length c0_1) ∧ w17.cell? ⟨gb123, 2, none⟩ = some (.slice A0_2 l0_2.length c0_2) := hS_
        refine norm_ (a' := ?_) ?_ ?_
        rotate_left
        · simp only [putAll, Act.put, List.setIfInBounds_toArray, List.set_cons_zero, List.set_cons_succ]
          rfl
        refine pure_ (i := 9) (N := some 9) (v := ?_) (a' := ?_) #[true, true, true, true, true, true, true, true, true, true] rfl rfl (any_of HT_.out (by kernel_rfl)) (fun _ _ _ h => h) (Or.inl ⟨by rfl, ?_⟩) ?_ ?_
        rotate_left
        · intro w'
          go_simp
          with_reducible rfl
        rotate_left
        · simp only [Act.put, List.setIfInBounds_toArray, List.set_cons_zero, List.set_cons_succ, i64_w, i32_w]
          rfl
        refine done_ (done_of HT_.out (by kernel_rfl)) ?_
        try go_wp2
        go_loopg [10] k (fun kq v10 w' => ∃ (x8_1 : List Int) (x9_1 : List Int) (x10_1 : Int), v10 = .int .i64 x10_1 ∧ Aside0 (wishbookref10_Missing.l0 kq t125 x8_1 x9_1 x10_1 l0_0 l0_1 l0_2 = some (r1, r2, r3)) ∧ Aside0 (kq ≤ k) ∧ Aside0 (Kd.R k49 49 w' w.heap.size (fun _ => True) v126 t125) ∧ Aside0 (Kd.R (Kd.int .i64) 3 w' w.heap.size (fun k_ => some k_ ≠ (v135 : Value).ownBlock) v132 x8_1) ∧ Aside0 (Kd.R (Kd.int .i64) 3 w' w.heap.size (fun k_ => some k_ ≠ (v132 : Value).ownBlock) v135 x9_1) ∧ Aside0 (w'.heap[gb123]? = some (.cells #[(.slice A0_0 l0_0.length c0_0), (.slice A0_1 l0_1.length c0_1), (.slice A0_2 l0_2.length c0_2)] 26 (0, 0))) ∧ Aside0 (Below w.heap.size w w'))
        case atStart => exact ⟨(y131), (y134), (0), (by first | rfl | (simp; done) | (simp [*]; done)), H', ⟨Nat.le_refl _⟩, ⟨by (with_reducible repeat (first | apply Kd.R_alloc | apply Kd.R_drewN | apply Kd.R_drew)); exact HO127.out⟩, ⟨by (with_reducible repeat (first | apply Kd.R_alloc | apply Kd.R_drewN | apply Kd.R_drew)); exact Kd.R_mono HO133.out (fun _ hk => hk.2)⟩, ⟨by (with_reducible repeat (first | apply Kd.R_alloc | apply Kd.R_drewN | apply Kd.R_drew)); exact Kd.R_mono HO136.out (fun _ hk => hk.2)⟩, ⟨by (with_reducible repeat (first | refine blk_drewN ?_ _ | refine blk_drew ?_ | refine blk_alloc ?_ _)); exact BK123.out⟩, ⟨by repeat (first | (with_reducible first | exact HB.out | apply below_alloc | apply pw_below_drewN | apply below_drew1 | refine below_set ?_ GE123.out) | exact HB.out)⟩⟩
        case round =>
          clear H'
          try clear c1
          try clear p2
          try clear c3
          try clear c3b0
          try clear c3b1
          try clear c4
          try clear c5
          try clear c5b0
          try clear c5b1
          try clear c6
          try clear c6b0
          try clear c6b1
          try clear c15
          try clear hcz10_0
          try clear hcz10_1
          try clear hcz10_2
          try clear hcz8_0
          try clear hcz8_1
          try clear hcz8_2
          try clear hfz10_0
          try clear hfz10_1
          try clear hfz10_2
          try clear hfz8_0
          try clear hfz8_1
          try clear hfz8_2
          obtain ⟨x8_1, x9_1, x10_1, rfl, HA, HK1, HO_6, HO_8, HO_9, BK123, HB⟩ := hrel
          cases gk with
          | zero => exact absurd HA.out (by simp [wishbookref10_Missing.l0])
          | succ k1 =>
            have H := HA.out
            clear HA
            simp only [wishbookref10_Missing.l0] at H
            by_cases c18 : x10_1 < (t125.length : Int)
            · rw [if_pos c18] at H
              have c18b0 : decide (x10_1 < (t125.length : Int)) = true := decide_eq_true c18
              clear c18
              by_cases c19 : 0 ≤ x10_1
              · rw [if_pos c19] at H
                have c19b0 : decide (0 ≤ x10_1) = true := decide_eq_true c19
                clear c19
                by_cases c20 : x10_1 < (l0_1.length : Int)
                · rw [if_pos c20] at H
                  have c20b0 : decide (x10_1 < (l0_1.length : Int)) = true := decide_eq_true c20
                  clear c20
                  by_cases c21 : 0 ≤ ((rd_T47 l0_1 x10_1).f1)
                  · rw [if_pos c21] at H
                    have c21b0 : decide (0 ≤ ((rd_T47 l0_1 x10_1).f1)) = true := decide_eq_true c21
                    clear c21
                    by_cases c22 : ((rd_T47 l0_1 x10_1).f1) < (x8_1.length : Int)
                    · rw [if_pos c22] at H
                      have c22b0 : decide (((rd_T47 l0_1 x10_1).f1) < (x8_1.length : Int)) = true := decide_eq_true c22
                      clear c22
                      obtain ⟨y140, hy140⟩ : ∃ y_ : List Int, y_ = (x8_1.set (((rd_T47 l0_1 x10_1).f1) : Int).toNat (wrap64 ((rd x8_1 ((rd_T47 l0_1 x10_1).f1)) + ((rd_T49 t125 x10_1).f2)))) := ⟨_, rfl⟩
                      replace H : (if ((rd_T47 l0_1 x10_1).f1) < (x9_1.length : Int) then (wishbookref10_Missing.l0 k1 t125 y140 (x9_1.set (((rd_T47 l0_1 x10_1).f1) : Int).toNat (wrap64 ((rd x9_1 ((rd_T47 l0_1 x10_1).f1)) + ((rd_T49 t125 x10_1).f3)))) (wrap64 (x10_1 + 1)) l0_0 l0_1 l0_2) else (none)) = some (r1, r2, r3) := by first | (rw [hy140]; with_reducible exact H) | (have H2_ := (Option.bind_some _ _).symm.trans H; rw [hy140]; with_reducible exact H2_) | (have H2_ := (Option.bind_some _ _).symm.trans H; with_reducible exact H2_) | with_reducible exact H | (rw [hy140]; exact H) | exact H
                      have Ny140 := Aside0.mk hy140
                      clear hy140
                      by_cases c24 : ((rd_T47 l0_1 x10_1).f1) < (x9_1.length : Int)
                      · rw [if_pos c24] at H
                        have c24b0 : decide (((rd_T47 l0_1 x10_1).f1) < (x9_1.length : Int)) = true := decide_eq_true c24
                        clear c24
                        obtain ⟨y144, hy144⟩ : ∃ y_ : List Int, y_ = (x9_1.set (((rd_T47 l0_1 x10_1).f1) : Int).toNat (wrap64 ((rd x9_1 ((rd_T47 l0_1 x10_1).f1)) + ((rd_T49 t125 x10_1).f3)))) := ⟨_, rfl⟩
                        replace H : (wishbookref10_Missing.l0 k1 t125 y140 y144 (wrap64 (x10_1 + 1)) l0_0 l0_1 l0_2) = some (r1, r2, r3) := by first | (rw [hy144]; with_reducible exact H) | (have H2_ := (Option.bind_some _ _).symm.trans H; rw [hy144]; with_reducible exact H2_) | (have H2_ := (Option.bind_some _ _).symm.trans H; with_reducible exact H2_) | with_reducible exact H | (rw [hy144]; exact H) | exact H
                        have Ny144 := Aside0.mk hy144
                        clear hy144
                        have H' := Aside0.mk H
                        clear H
                        obtain ⟨Ao26, co26, eo26⟩ := Kd.R_slice HO_6.out
                        subst eo26
                        try go_wp2
                        have n0_ := Aside0.mk (Kd.R_drew HO_6.out)
                        have n1_ := Aside0.mk (Kd.R_drew HO_8.out)
                        have n2_ := Aside0.mk (Kd.R_drew HO_9.out)
                        have n3_ := Aside0.mk (blk_drew BK123.out)
                        have n4_ := Aside0.mk (below_drew1 HB.out)
                        clear HO_6
                        clear HO_8
                        clear HO_9
                        clear BK123
                        clear HB
                        have HO_6 := n0_
                        have HO_8 := n1_
                        have HO_9 := n2_
                        have BK123 := n3_
                        have HB := n4_
                        clear n0_ n1_ n2_ n3_ n4_
                        have p137 : 0 ≤ (x10_1 : Int) := of_decide_eq_true (by first | (with_reducible assumption) | assumption)
                        have q137 : x10_1 < (l0_1.length : Int) := of_decide_eq_true (by first | (with_reducible assumption) | assumption)
                        obtain ⟨ad137, e137, hx137_0, hx137_1, hx137_2, hx137_3, hx137_4⟩ := at_T47 HR0_1.out x10_1 p137 q137
                        have hw137_4 := hx137_4
                        have hw137_3 := hx137_3
                        have hw137_2 := hx137_2
                        have hw137_1 := hx137_1
                        have hw137_0 := hx137_0
                        cases e137
                        replace hx137_0 := (HB.out.cell (World.block_lt_of_cell? w _ hx137_0)).trans hx137_0
                        replace hx137_1 := (HB.out.cell (World.block_lt_of_cell? w _ hx137_1)).trans hx137_1
                        replace hx137_2 := (HB.out.cell (World.block_lt_of_cell? w _ hx137_2)).trans hx137_2
                        replace hx137_3 := (HB.out.cell (World.block_lt_of_cell? w _ hx137_3)).trans hx137_3
                        replace hx137_4 := (HB.out.cell (World.block_lt_of_cell? w _ hx137_4)).trans hx137_4
                        replace p137 := eq_true p137
                        replace q137 := eq_true q137
                        obtain ⟨Ao28, co28, eo28⟩ := Kd.R_slice HO_8.out
                        (first | subst eo28 | (injection eo28 with f1_ f2_ f3_; have f4_ := f1_.symm; have f5_ := f3_.symm; clear f1_ f2_ f3_; subst f4_; subst f5_))
                        have p138 : 0 ≤ (((rd_T47 l0_1 x10_1).f1) : Int) := of_decide_eq_true (by first | (with_reducible assumption) | assumption)
                        have q138 : ((rd_T47 l0_1 x10_1).f1) < (x8_1.length : Int) := of_decide_eq_true (by first | (with_reducible assumption) | assumption)
                        obtain ⟨ad138, e138, hx138_0⟩ := Kd.at_int (Kd.R_reads' HO_8.out).2.2 ((rd_T47 l0_1 x10_1).f1) p138 q138
                        cases e138
                        replace p138 := eq_true p138
                        replace q138 := eq_true q138
                        have p139 : 0 ≤ (x10_1 : Int) := of_decide_eq_true (by first | (with_reducible assumption) | assumption)
                        have q139 : x10_1 < (t125.length : Int) := of_decide_eq_true (by first | (with_reducible assumption) | assumption)
                        obtain ⟨ad139, e139, hx139_0, hx139_1, hx139_2, hx139_3⟩ := at_T49 (Kd.R_reads' HO_6.out).2.2 x10_1 p139 q139
                        cases e139
                        replace p139 := eq_true p139
                        replace q139 := eq_true q139
                        have p23 : 0 ≤ (((rd_T47 l0_1 x10_1).f1) : Int) := of_decide_eq_true (by first | (with_reducible assumption) | assumption)
                        have q23 : (((rd_T47 l0_1 x10_1).f1) : Int) < ((x8_1.length : Int) : Int) := of_decide_eq_true (by first | (with_reducible assumption) | assumption)
                        obtain ⟨go23, co23, eo23, gb23, gl23, cl23, HG23⟩ := Kd.R_form HO_8.out (by omega)
                        (first | cases eo23 | (injection eo23 with ea_ en_ ec_; (first | subst ea_ | (injection ea_ with ea_; subst ea_)); subst ec_; clear en_))
                        have GB23 := Aside0.mk gb23
                        have GG23 := Aside0.mk HG23
                        clear gb23 gl23 HG23
                        (first | simp only [add_plain] at hx138_0 | skip)
                        obtain ⟨hx23_0, hf23_0⟩ := Kd.R_celln 0 HO_8.out (((rd_T47 l0_1 x10_1).f1) : Int) p23 q23
                        replace p23 := eq_true p23
                        replace q23 := eq_true q23
                        have HP29 := Kd.R_putn HO_8.out (((rd_T47 l0_1 x10_1).f1) : Int) (wrap64 ((rd x8_1 ((rd_T47 l0_1 x10_1).f1)) + ((rd_T49 t125 x10_1).f2)))
                        rw [← Ny140.out] at HP29
                        have HQ29 := Aside0.mk HP29
                        clear HP29
                        refine start_ (n := 17) (S := fun w' => w'.cell? ⟨gb123, 0, none⟩ = some (.slice A0_0 l0_0.length c0_0) ∧ w'.cell? ⟨gb123, 1, none⟩ = some (.slice (some ad137) l0_1.length c0_1) ∧ w'.cell? ⟨gb123, 2, none⟩ = some (.slice A0_2 l0_2.length c0_2) ∧ w'.cell? (ad137.add ((x10_1).toNat * 5)) = some (.int .i64 ((rd_T47 l0_1 x10_1).f0)) ∧ w'.cell? ⟨(ad137.add ((x10_1).toNat * 5)).block, (ad137.add ((x10_1).toNat * 5)).off + 1, none⟩ = some (.int .i64 ((rd_T47 l0_1 x10_1).f1)) ∧ w'.cell? ⟨(ad137.add ((x10_1).toNat * 5)).block, (ad137.add ((x10_1).toNat * 5)).off + 2, none⟩ = some (.int .i64 ((rd_T47 l0_1 x10_1).f2)) ∧ w'.cell? ⟨(ad137.add ((x10_1).toNat * 5)).block, (ad137.add ((x10_1).toNat * 5)).off + 3, none⟩ = some (.int .i64 ((rd_T47 l0_1 x10_1).f3)) ∧ w'.cell? ⟨(ad137.add ((x10_1).toNat * 5)).block, (ad137.add ((x10_1).toNat * 5)).off + 4, none⟩ = some (.int .i64 ((rd_T47 l0_1 x10_1).f4)) ∧ w'.cell? ⟨go23, ((rd_T47 l0_1 x10_1).f1).toNat, none⟩ = some (.int .i64 (rd x8_1 ((rd_T47 l0_1 x10_1).f1))) ∧ w'.cell? (ad139.add ((x10_1).toNat * 4)) = some (.int .i64 ((rd_T49 t125 x10_1).f0)) ∧ w'.cell? ⟨(ad139.add ((x10_1).toNat * 4)).block, (ad139.add ((x10_1).toNat * 4)).off + 1, none⟩ = some (.int .i64 ((rd_T49 t125 x10_1).f1)) ∧ w'.cell? ⟨(ad139.add ((x10_1).toNat * 4)).block, (ad139.add ((x10_1).toNat * 4)).off + 2, none⟩ = some (.int .i64 ((rd_T49 t125 x10_1).f2)) ∧ w'.cell? ⟨(ad139.add ((x10_1).toNat * 4)).block, (ad139.add ((x10_1).toNat * 4)).off + 3, none⟩ = some (.int .i64 ((rd_T49 t125 x10_1).f3))) (ds := [16]) #[false, false, false, false, false, false, false, false, false, false, false, false, false, false, false, false, false] (by kernel_rfl) rfl rfl ⟨(blk_cell BK123.out 0).trans rfl, (blk_cell BK123.out 1).trans rfl, (blk_cell BK123.out 2).trans rfl, ((HB.out.cell (World.block_lt_of_cell? w _ hw137_0)).trans hw137_0), ((HB.out.cell (World.block_lt_of_cell? w _ hw137_1)).trans hw137_1), ((HB.out.cell (World.block_lt_of_cell? w _ hw137_2)).trans hw137_2), ((HB.out.cell (World.block_lt_of_cell? w _ hw137_3)).trans hw137_3), ((HB.out.cell (World.block_lt_of_cell? w _ hw137_4)).trans hw137_4), hx138_0, hx139_0, hx139_1, hx139_2, hx139_3⟩ (fun hHeld => ?_); refine with_tabW wishbookref10_Missing.tab9 wishbookref10_Missing.bits9 (fun HT_ HW_ => ?_)
                        generalize wr.drew = w27 at HO_6 HO_8 HO_9 BK123 HB GG23 HQ29 hf23_0 hx137_0 hx137_1 hx137_2 hx137_3 hx137_4 hx138_0 hx139_0 hx139_1 hx139_2 hx139_3 hx23_0 hHeld ⊢
                        refine pure_ (i := 0) (N := some 35) (v := ?_) (a' := ?_) #[true, false, false, false, false, false, false, false, false, false, false, false, false, false, false, false, false] rfl rfl (any_of HT_.out (by kernel_rfl)) (fun _ _ _ h => h) (Or.inl ⟨by rfl, ?_⟩) ?_ ?_
                        rotate_left
                        · intro w'
                          go_simp
                          with_reducible rfl
                        rotate_left
                        · simp only [Act.put, List.setIfInBounds_toArray, List.set_cons_zero, List.set_cons_succ, i64_w, i32_w]
                          rfl
                        refine pure_ (i := 1) (N := some 36) (v := ?_) (a' := ?_) #[true, true, false, false, false, false, false, false, false, false, false, false, false, false, false, false, false] rfl rfl (any_of HT_.out (by kernel_rfl)) (fun _ _ _ h => h) (Or.inl ⟨by rfl, ?_⟩) ?_ ?_
                        rotate_left
                        · intro w'
                          go_simp
                          with_reducible rfl
                        rotate_left
                        · simp only [Act.put, List.setIfInBounds_toArray, List.set_cons_zero, List.set_cons_succ, i64_w, i32_w]
                          rfl
                        refine pure_ (i := 3) (N := some 38) (v := ?_) (a' := ?_) #[true, true, false, true, false, false, false, false, false, false, false, false, false, false, false, false, false] rfl rfl (any_of HT_.out (by kernel_rfl)) (fun _ _ _ h => h) (Or.inl ⟨by rfl, ?_⟩) ?_ ?_
                        rotate_left
                        · intro w'
                          go_simp
                          with_reducible rfl
                        rotate_left
                        · simp only [Act.put, List.setIfInBounds_toArray, List.set_cons_zero, List.set_cons_succ, i64_w, i32_w]
                          rfl
                        refine pure_ (i := 9) (N := some 44) (v := ?_) (a' := ?_) #[true, true, false, true, false, false, false, false, false, true, false, false, false, false, false, false, false] rfl rfl (any_of HT_.out (by kernel_rfl)) (fun _ _ _ h => h) (Or.inl ⟨by rfl, ?_⟩) ?_ ?_
                        rotate_left
                        · intro w'
                          go_simp
                          with_reducible rfl
                        rotate_left
                        · simp only [Act.put, List.setIfInBounds_toArray, List.set_cons_zero, List.set_cons_succ, i64_w, i32_w]
                          rfl
                        refine pure_ (i := 10) (N := some 45) (v := ?_) (a' := ?_) #[true, true, false, true, false, false, false, false, false, true, true, false, false, false, false, false, false] rfl rfl (any_of HT_.out (by kernel_rfl)) (fun _ _ _ h => h) (Or.inl ⟨by rfl, ?_⟩) ?_ ?_
                        rotate_left
                        · intro w'
                          go_simp
                          with_reducible rfl
                        rotate_left
                        · simp only [Act.put, List.setIfInBounds_toArray, List.set_cons_zero, List.set_cons_succ, i64_w, i32_w]
                          rfl
                        refine pure_ (i := 11) (N := some 46) (v := ?_) (a' := ?_) #[true, true, false, true, false, false, false, false, false, true, true, true, false, false, false, false, false] rfl rfl (any_of HT_.out (by kernel_rfl)) (fun _ _ _ h => h) (Or.inl ⟨by rfl, ?_⟩) ?_ ?_
                        rotate_left
                        · intro w'
                          go_simp
                          with_reducible rfl
                        rotate_left
                        · simp only [Act.put, List.setIfInBounds_toArray, List.set_cons_zero, List.set_cons_succ, i64_w, i32_w]
                          rfl
                        refine pure_ (i := 12) (N := some 47) (v := ?_) (a' := ?_) #[true, true, false, true, false, false, false, false, false, true, true, true, true, false, false, false, false] rfl rfl (any_of HT_.out (by kernel_rfl)) (fun _ _ _ h => h) (Or.inl ⟨by rfl, ?_⟩) ?_ ?_
                        rotate_left
                        · intro w'
                          go_simp
                          with_reducible rfl
                        rotate_left
                        · simp only [Act.put, List.setIfInBounds_toArray, List.set_cons_zero, List.set_cons_succ, i64_w, i32_w]
                          rfl
                        refine take_ (i := 2) (N := some 37) (v := ?_) (a' := ?_) #[true, true, true, true, false, false, false, false, false, true, true, true, true, false, false, false, false] rfl rfl (take_ofW HT_.out HW_.out (by kernel_rfl)) (fun _ _ _ h => h) (Or.inl ⟨by rfl, ?_⟩) hHeld ?_ ?_
                        rotate_left
                        · rintro w' ⟨s0, s1, s2, s3, s4, s5, s6, s7, s8, s9, s10, s11, s12⟩
                          go_simp
                          with_reducible rfl
                        rotate_left
                        · simp only [Act.put, List.setIfInBounds_toArray, List.set_cons_zero, List.set_cons_succ, i64_w, i32_w]
                          rfl
                        refine pure_ (i := 4) (N := some 39) (v := ?_) (a' := ?_) #[true, true, true, true, true, false, false, false, false, true, true, true, true, false, false, false, false] rfl rfl (any_of HT_.out (by kernel_rfl)) (fun _ _ _ h => h) (Or.inl ⟨by rfl, ?_⟩) ?_ ?_
                        rotate_left
                        · intro w'
                          go_simp
                          with_reducible rfl
                        rotate_left
                        · simp only [Act.put, List.setIfInBounds_toArray, List.set_cons_zero, List.set_cons_succ, i64_w, i32_w]
                          rfl
                        refine pure_ (i := 5) (N := some 40) (v := ?_) (a' := ?_) #[true, true, true, true, true, true, false, false, false, true, true, true, true, false, false, false, false] rfl rfl (any_of HT_.out (by kernel_rfl)) (fun _ _ _ h => h) (Or.inl ⟨by rfl, ?_⟩) ?_ ?_
                        rotate_left
                        · intro w'
                          go_simp
                          with_reducible rfl
                        rotate_left
                        · simp only [Act.put, List.setIfInBounds_toArray, List.set_cons_zero, List.set_cons_succ, i64_w, i32_w]
                          rfl
                        refine take_ (i := 6) (N := some 41) (v := ?_) (a' := ?_) #[true, true, true, true, true, true, true, false, false, true, true, true, true, false, false, false, false] rfl rfl (take_ofW HT_.out HW_.out (by kernel_rfl)) (fun _ _ _ h => h) (Or.inl ⟨by rfl, ?_⟩) hHeld ?_ ?_
                        rotate_left
                        · rintro w' ⟨s0, s1, s2, s3, s4, s5, s6, s7, s8, s9, s10, s11, s12⟩
                          go_simp
                          with_reducible rfl
                        rotate_left
                        · simp only [Act.put, List.setIfInBounds_toArray, List.set_cons_zero, List.set_cons_succ, i64_w, i32_w]
                          rfl
                        refine pure_ (i := 7) (N := some 42) (v := ?_) (a' := ?_) #[true, true, true, true, true, true, true, true, false, true, true, true, true, false, false, false, false] rfl rfl (any_of HT_.out (by kernel_rfl)) (fun _ _ _ h => h) (Or.inl ⟨by rfl, ?_⟩) ?_ ?_
                        rotate_left
                        · intro w'
                          go_simp
                          with_reducible rfl
                        rotate_left
                        · simp only [Act.put, List.setIfInBounds_toArray, List.set_cons_zero, List.set_cons_succ, i64_w, i32_w]
                          rfl
                        refine take_ (i := 8) (N := some 43) (v := ?_) (a' := ?_) #[true, true, true, true, true, true, true, true, true, true, true, true, true, false, false, false, false] rfl rfl (take_ofW HT_.out HW_.out (by kernel_rfl)) (fun _ _ _ h => h) (Or.inl ⟨by rfl, ?_⟩) hHeld ?_ ?_
                        rotate_left
                        · rintro w' ⟨s0, s1, s2, s3, s4, s5, s6, s7, s8, s9, s10, s11, s12⟩
                          go_simp
                          with_reducible rfl
                        rotate_left
                        · simp only [Act.put, List.setIfInBounds_toArray, List.set_cons_zero, List.set_cons_succ, i64_w, i32_w]
                          rfl
                        refine take_ (i := 13) (N := some 48) (v := ?_) (a' := ?_) #[true, true, true, true, true, true, true, true, true, true, true, true, true, true, false, false, false] rfl rfl (take_ofW HT_.out HW_.out (by kernel_rfl)) (fun _ _ _ h => h) (Or.inl ⟨by rfl, ?_⟩) hHeld ?_ ?_
                        rotate_left
                        · rintro w' ⟨s0, s1, s2, s3, s4, s5, s6, s7, s8, s9, s10, s11, s12⟩
                          go_simp
                          with_reducible rfl
                        rotate_left
                        · simp only [Act.put, List.setIfInBounds_toArray, List.set_cons_zero, List.set_cons_succ, i64_w, i32_w]
                          rfl
                        refine pure_ (i := 14) (N := some 49) (v := ?_) (a' := ?_) #[true, true, true, true, true, true, true, true, true, true, true, true, true, true, true, false, false] rfl rfl (any_of HT_.out (by kernel_rfl)) (fun _ _ _ h => h) (Or.inl ⟨by rfl, ?_⟩) ?_ ?_
                        rotate_left
                        · intro w'
                          go_simp
                          with_reducible rfl
                        rotate_left
                        · simp only [Act.put, List.setIfInBounds_toArray, List.set_cons_zero, List.set_cons_succ, i64_w, i32_w]
                          rfl
                        refine pure_ (i := 15) (N := some 50) (v := ?_) (a' := ?_) #[true, true, true, true, true, true, true, true, true, true, true, true, true, true, true, true, false] rfl rfl (any_of HT_.out (by kernel_rfl)) (fun _ _ _ h => h) (Or.inl ⟨by rfl, ?_⟩) ?_ ?_
                        rotate_left
                        · intro w'
                          go_simp
                          with_reducible rfl
                        rotate_left
                        · simp only [Act.put, List.setIfInBounds_toArray, List.set_cons_zero, List.set_cons_succ, i64_w, i32_w]
                          rfl
                        refine last_ (i := 16) (N := none) #[true, true, true, true, true, true, true, true, true, true, true, true, true, true, true, true, true] rfl rfl (one_of HT_.out (by kernel_rfl)) (by decide) (fun K hK => ?_)
                        refine skip_ (w1 := ?_) (by rfl) rfl ?_ ?_
                        rotate_left
                        · go_simp
                          rfl
                        refine hK.out _ _ ?_
                        clear hK K
                        refine done_ (done_of HT_.out (by kernel_rfl)) ?_
                        try go_wp2
                        have n0_ : Aside0 (Kd.R k49 49 (w27.setCell ⟨go23, (((rd_T47 l0_1 x10_1).f1) : Int).toNat, none⟩ (.int .i64 (wrap64 ((rd x8_1 ((rd_T47 l0_1 x10_1).f1)) + ((rd_T49 t125 x10_1).f2))))) w.heap.size (fun _ => True) (.slice (some ad139) t125.length co26) t125) := ⟨by (with_reducible repeat (first | apply Kd.R_alloc | apply Kd.R_drewN | apply Kd.R_drew)); exact Kd.R_mono (Kd.R_far (p := ⟨go23, (((rd_T47 l0_1 x10_1).f1) : Int).toNat, none⟩) (Kd.R_types HO_6.out GG23.out (by decide)) (fun _ hk => hk.2) (.int .i64 (wrap64 ((rd x8_1 ((rd_T47 l0_1 x10_1).f1)) + ((rd_T49 t125 x10_1).f2))))) (fun _ hk => trivial)⟩
                        have n1_ : Aside0 (Kd.R (Kd.int .i64) 3 (w27.setCell ⟨go23, (((rd_T47 l0_1 x10_1).f1) : Int).toNat, none⟩ (.int .i64 (wrap64 ((rd x8_1 ((rd_T47 l0_1 x10_1).f1)) + ((rd_T49 t125 x10_1).f2))))) w.heap.size (fun k_ => some k_ ≠ (v135 : Value).ownBlock) (.slice (some ⟨go23, 0, none⟩) x8_1.length co28) y140) := ⟨by (with_reducible repeat (first | apply Kd.R_alloc | apply Kd.R_drewN | apply Kd.R_drew)); exact HQ29.out⟩
                        have n2_ : Aside0 (Kd.R (Kd.int .i64) 3 (w27.setCell ⟨go23, (((rd_T47 l0_1 x10_1).f1) : Int).toNat, none⟩ (.int .i64 (wrap64 ((rd x8_1 ((rd_T47 l0_1 x10_1).f1)) + ((rd_T49 t125 x10_1).f2))))) w.heap.size (fun k_ => some k_ ≠ (.slice (some ⟨go23, 0, none⟩) x8_1.length co28 : Value).ownBlock) v135 x9_1) := ⟨by (with_reducible repeat (first | apply Kd.R_alloc | apply Kd.R_drewN | apply Kd.R_drew)); exact Kd.R_mono (Kd.R_far (p := ⟨go23, (((rd_T47 l0_1 x10_1).f1) : Int).toNat, none⟩) (Kd.R_mono HO_9.out (fun k_ hk => (⟨hk, fun e_ => hk (by rw [e_]; rfl)⟩ : _ ∧ k_ ≠ go23))) (fun _ hk => hk.2) (.int .i64 (wrap64 ((rd x8_1 ((rd_T47 l0_1 x10_1).f1)) + ((rd_T49 t125 x10_1).f2))))) (fun _ hk => hk.1)⟩
                        have n3_ : Aside0 ((w27.setCell ⟨go23, (((rd_T47 l0_1 x10_1).f1) : Int).toNat, none⟩ (.int .i64 (wrap64 ((rd x8_1 ((rd_T47 l0_1 x10_1).f1)) + ((rd_T49 t125 x10_1).f2))))).heap[gb123]? = some (.cells #[.slice A0_0 l0_0.length c0_0, .slice (some ad137) l0_1.length c0_1, .slice A0_2 l0_2.length c0_2] 26 (0, 0))) := ⟨by (with_reducible repeat (first | refine blk_drewN ?_ _ | refine blk_drew ?_ | refine blk_alloc ?_ _)); refine blk_far ?_ (by have h_ := Kd.R_ne HO_8.out BK123.out (by decide); intro e_; exact h_ (by rw [e_]; rfl)) _; (with_reducible repeat (first | refine blk_drewN ?_ _ | refine blk_drew ?_ | refine blk_alloc ?_ _)); exact BK123.out⟩
                        have n4_ : Aside0 (Below w.heap.size w (w27.setCell ⟨go23, (((rd_T47 l0_1 x10_1).f1) : Int).toNat, none⟩ (.int .i64 (wrap64 ((rd x8_1 ((rd_T47 l0_1 x10_1).f1)) + ((rd_T49 t125 x10_1).f2)))))) := ⟨by repeat (first | (with_reducible first | exact HB.out | apply below_alloc | apply pw_below_drewN | apply below_drew1 | refine below_set ?_ GB23.out | refine below_set ?_ GE123.out) | exact HB.out)⟩
                        (try clear HO_6)
                        (try clear HO_8)
                        (try clear HO_9)
                        (try clear BK123)
                        (try clear HB)
                        generalize (w27.setCell ⟨go23, (((rd_T47 l0_1 x10_1).f1) : Int).toNat, none⟩ (.int .i64 (wrap64 ((rd x8_1 ((rd_T47 l0_1 x10_1).f1)) + ((rd_T49 t125 x10_1).f2))))) = w30 at n0_ n1_ n2_ n3_ n4_ ⊢
                        have HO_6 := n0_
                        have HO_8 := n1_
                        have HO_9 := n2_
                        have BK123 := n3_
                        have HB := n4_
                        clear n0_ n1_ n2_ n3_ n4_
                        have n0_ := Aside0.mk (Kd.R_drew HO_6.out)
                        have n1_ := Aside0.mk (Kd.R_drew HO_8.out)
                        have n2_ := Aside0.mk (Kd.R_drew HO_9.out)
                        have n3_ := Aside0.mk (blk_drew BK123.out)
                        have n4_ := Aside0.mk (below_drew1 HB.out)
                        clear HO_6
                        clear HO_8
                        clear HO_9
                        clear BK123
                        clear HB
                        have HO_6 := n0_
                        have HO_8 := n1_
                        have HO_9 := n2_
                        have BK123 := n3_
                        have HB := n4_
                        clear n0_ n1_ n2_ n3_ n4_
                        have p141 : 0 ≤ (x10_1 : Int) := of_decide_eq_true (by first | (with_reducible assumption) | assumption)
                        have q141 : x10_1 < (l0_1.length : Int) := of_decide_eq_true (by first | (with_reducible assumption) | assumption)
                        obtain ⟨ad141, e141, hx141_0, hx141_1, hx141_2, hx141_3, hx141_4⟩ := at_T47 HR0_1.out x10_1 p141 q141
                        have hw141_4 := hx141_4
                        have hw141_3 := hx141_3
                        have hw141_2 := hx141_2
                        have hw141_1 := hx141_1
                        have hw141_0 := hx141_0
                        obtain rfl : ad137 = ad141 := (by injection e141)
                        replace hx141_0 := (HB.out.cell (World.block_lt_of_cell? w _ hx141_0)).trans hx141_0
                        replace hx141_1 := (HB.out.cell (World.block_lt_of_cell? w _ hx141_1)).trans hx141_1
                        replace hx141_2 := (HB.out.cell (World.block_lt_of_cell? w _ hx141_2)).trans hx141_2
                        replace hx141_3 := (HB.out.cell (World.block_lt_of_cell? w _ hx141_3)).trans hx141_3
                        replace hx141_4 := (HB.out.cell (World.block_lt_of_cell? w _ hx141_4)).trans hx141_4
                        replace p141 := eq_true p141
                        replace q141 := eq_true q141
                        obtain ⟨Ao32, co32, eo32⟩ := Kd.R_slice HO_9.out
                        (first | subst eo32 | (injection eo32 with f1_ f2_ f3_; have f4_ := f1_.symm; have f5_ := f3_.symm; clear f1_ f2_ f3_; subst f4_; subst f5_))
                        have p142 : 0 ≤ (((rd_T47 l0_1 x10_1).f1) : Int) := of_decide_eq_true (by first | (with_reducible assumption) | assumption)
                        have q142 : ((rd_T47 l0_1 x10_1).f1) < (x9_1.length : Int) := of_decide_eq_true (by first | (with_reducible assumption) | assumption)
                        obtain ⟨ad142, e142, hx142_0⟩ := Kd.at_int (Kd.R_reads' HO_9.out).2.2 ((rd_T47 l0_1 x10_1).f1) p142 q142
                        cases e142
                        replace p142 := eq_true p142
                        replace q142 := eq_true q142
                        have p143 : 0 ≤ (x10_1 : Int) := of_decide_eq_true (by first | (with_reducible assumption) | assumption)
                        have q143 : x10_1 < (t125.length : Int) := of_decide_eq_true (by first | (with_reducible assumption) | assumption)
                        obtain ⟨ad143, e143, hx143_0, hx143_1, hx143_2, hx143_3⟩ := at_T49 (Kd.R_reads' HO_6.out).2.2 x10_1 p143 q143
                        obtain rfl : ad139 = ad143 := (by injection e143)
                        replace p143 := eq_true p143
                        replace q143 := eq_true q143
                        have p25 : 0 ≤ (((rd_T47 l0_1 x10_1).f1) : Int) := of_decide_eq_true (by first | (with_reducible assumption) | assumption)
                        have q25 : (((rd_T47 l0_1 x10_1).f1) : Int) < ((x9_1.length : Int) : Int) := of_decide_eq_true (by first | (with_reducible assumption) | assumption)
                        obtain ⟨go25, co25, eo25, gb25, gl25, cl25, HG25⟩ := Kd.R_form HO_9.out (by omega)
                        (first | cases eo25 | (injection eo25 with ea_ en_ ec_; (first | subst ea_ | (injection ea_ with ea_; subst ea_)); subst ec_; clear en_))
                        have GB25 := Aside0.mk gb25
                        have GG25 := Aside0.mk HG25
                        clear gb25 gl25 HG25
                        (first | simp only [add_plain] at hx142_0 | skip)
                        obtain ⟨hx25_0, hf25_0⟩ := Kd.R_celln 0 HO_9.out (((rd_T47 l0_1 x10_1).f1) : Int) p25 q25
                        replace p25 := eq_true p25
                        replace q25 := eq_true q25
                        have HP33 := Kd.R_putn HO_9.out (((rd_T47 l0_1 x10_1).f1) : Int) (wrap64 ((rd x9_1 ((rd_T47 l0_1 x10_1).f1)) + ((rd_T49 t125 x10_1).f3)))
                        rw [← Ny144.out] at HP33
                        have HQ33 := Aside0.mk HP33
                        clear HP33
                        refine start_ (n := 17) (S := fun w' => w'.cell? ⟨gb123, 0, none⟩ = some (.slice A0_0 l0_0.length c0_0) ∧ w'.cell? ⟨gb123, 1, none⟩ = some (.slice (some ad137) l0_1.length c0_1) ∧ w'.cell? ⟨gb123, 2, none⟩ = some (.slice A0_2 l0_2.length c0_2) ∧ w'.cell? (ad137.add ((x10_1).toNat * 5)) = some (.int .i64 ((rd_T47 l0_1 x10_1).f0)) ∧ w'.cell? ⟨(ad137.add ((x10_1).toNat * 5)).block, (ad137.add ((x10_1).toNat * 5)).off + 1, none⟩ = some (.int .i64 ((rd_T47 l0_1 x10_1).f1)) ∧ w'.cell? ⟨(ad137.add ((x10_1).toNat * 5)).block, (ad137.add ((x10_1).toNat * 5)).off + 2, none⟩ = some (.int .i64 ((rd_T47 l0_1 x10_1).f2)) ∧ w'.cell? ⟨(ad137.add ((x10_1).toNat * 5)).block, (ad137.add ((x10_1).toNat * 5)).off + 3, none⟩ = some (.int .i64 ((rd_T47 l0_1 x10_1).f3)) ∧ w'.cell? ⟨(ad137.add ((x10_1).toNat * 5)).block, (ad137.add ((x10_1).toNat * 5)).off + 4, none⟩ = some (.int .i64 ((rd_T47 l0_1 x10_1).f4)) ∧ w'.cell? ⟨go25, ((rd_T47 l0_1 x10_1).f1).toNat, none⟩ = some (.int .i64 (rd x9_1 ((rd_T47 l0_1 x10_1).f1))) ∧ w'.cell? (ad139.add ((x10_1).toNat * 4)) = some (.int .i64 ((rd_T49 t125 x10_1).f0)) ∧ w'.cell? ⟨(ad139.add ((x10_1).toNat * 4)).block, (ad139.add ((x10_1).toNat * 4)).off + 1, none⟩ = some (.int .i64 ((rd_T49 t125 x10_1).f1)) ∧ w'.cell? ⟨(ad139.add ((x10_1).toNat * 4)).block, (ad139.add ((x10_1).toNat * 4)).off + 2, none⟩ = some (.int .i64 ((rd_T49 t125 x10_1).f2)) ∧ w'.cell? ⟨(ad139.add ((x10_1).toNat * 4)).block, (ad139.add ((x10_1).toNat * 4)).off + 3, none⟩ = some (.int .i64 ((rd_T49 t125 x10_1).f3))) (ds := [16]) #[false, false, false, false, false, false, false, false, false, false, false, false, false, false, false, false, false] (by kernel_rfl) rfl rfl ⟨(blk_cell BK123.out 0).trans rfl, (blk_cell BK123.out 1).trans rfl, (blk_cell BK123.out 2).trans rfl, ((HB.out.cell (World.block_lt_of_cell? w _ hw141_0)).trans hw141_0), ((HB.out.cell (World.block_lt_of_cell? w _ hw141_1)).trans hw141_1), ((HB.out.cell (World.block_lt_of_cell? w _ hw141_2)).trans hw141_2), ((HB.out.cell (World.block_lt_of_cell? w _ hw141_3)).trans hw141_3), ((HB.out.cell (World.block_lt_of_cell? w _ hw141_4)).trans hw141_4), hx142_0, hx143_0, hx143_1, hx143_2, hx143_3⟩ (fun hHeld => ?_); refine with_tabW wishbookref10_Missing.tab10 wishbookref10_Missing.bits10 (fun HT_ HW_ => ?_)
                        generalize w30.drew = w31 at HO_6 HO_8 HO_9 BK123 HB GG25 HQ29 HQ33 hf25_0 hx141_0 hx141_1 hx141_2 hx141_3 hx141_4 hx142_0 hx143_0 hx143_1 hx143_2 hx143_3 hx25_0 hHeld ⊢
                        refine pure_ (i := 0) (N := some 51) (v := ?_) (a' := ?_) #[true, false, false, false, false, false, false, false, false, false, false, false, false, false, false, false, false] rfl rfl (any_of HT_.out (by kernel_rfl)) (fun _ _ _ h => h) (Or.inl ⟨by rfl, ?_⟩) ?_ ?_
                        rotate_left
                        · intro w'
                          go_simp
                          with_reducible rfl
                        rotate_left
                        · simp only [Act.put, List.setIfInBounds_toArray, List.set_cons_zero, List.set_cons_succ, i64_w, i32_w]
                          rfl
                        refine pure_ (i := 1) (N := some 52) (v := ?_) (a' := ?_) #[true, true, false, false, false, false, false, false, false, false, false, false, false, false, false, false, false] rfl rfl (any_of HT_.out (by kernel_rfl)) (fun _ _ _ h => h) (Or.inl ⟨by rfl, ?_⟩) ?_ ?_
                        rotate_left
                        · intro w'
                          go_simp
                          with_reducible rfl
                        rotate_left
                        · simp only [Act.put, List.setIfInBounds_toArray, List.set_cons_zero, List.set_cons_succ, i64_w, i32_w]
                          rfl
                        refine pure_ (i := 3) (N := some 54) (v := ?_) (a' := ?_) #[true, true, false, true, false, false, false, false, false, false, false, false, false, false, false, false, false] rfl rfl (any_of HT_.out (by kernel_rfl)) (fun _ _ _ h => h) (Or.inl ⟨by rfl, ?_⟩) ?_ ?_
                        rotate_left
                        · intro w'
                          go_simp
                          with_reducible rfl
                        rotate_left
                        · simp only [Act.put, List.setIfInBounds_toArray, List.set_cons_zero, List.set_cons_succ, i64_w, i32_w]
                          rfl
                        refine pure_ (i := 9) (N := some 60) (v := ?_) (a' := ?_) #[true, true, false, true, false, false, false, false, false, true, false, false, false, false, false, false, false] rfl rfl (any_of HT_.out (by kernel_rfl)) (fun _ _ _ h => h) (Or.inl ⟨by rfl, ?_⟩) ?_ ?_
                        rotate_left
                        · intro w'
                          go_simp
                          with_reducible rfl
                        rotate_left
                        · simp only [Act.put, List.setIfInBounds_toArray, List.set_cons_zero, List.set_cons_succ, i64_w, i32_w]
                          rfl
                        refine pure_ (i := 10) (N := some 61) (v := ?_) (a' := ?_) #[true, true, false, true, false, false, false, false, false, true, true, false, false, false, false, false, false] rfl rfl (any_of HT_.out (by kernel_rfl)) (fun _ _ _ h => h) (Or.inl ⟨by rfl, ?_⟩) ?_ ?_
                        rotate_left
                        · intro w'
                          go_simp
                          with_reducible rfl
                        rotate_left
                        · simp only [Act.put, List.setIfInBounds_toArray, List.set_cons_zero, List.set_cons_succ, i64_w, i32_w]
                          rfl
                        refine pure_ (i := 11) (N := some 62) (v := ?_) (a' := ?_) #[true, true, false, true, false, false, false, false, false, true, true, true, false, false, false, false, false] rfl rfl (any_of HT_.out (by kernel_rfl)) (fun _ _ _ h => h) (Or.inl ⟨by rfl, ?_⟩) ?_ ?_
                        rotate_left
                        · intro w'
                          go_simp
                          with_reducible rfl
                        rotate_left
                        · simp only [Act.put, List.setIfInBounds_toArray, List.set_cons_zero, List.set_cons_succ, i64_w, i32_w]
                          rfl
                        refine pure_ (i := 12) (N := some 63) (v := ?_) (a' := ?_) #[true, true, false, true, false, false, false, false, false, true, true, true, true, false, false, false, false] rfl rfl (any_of HT_.out (by kernel_rfl)) (fun _ _ _ h => h) (Or.inl ⟨by rfl, ?_⟩) ?_ ?_
                        rotate_left
                        · intro w'
                          go_simp
                          with_reducible rfl
                        rotate_left
                        · simp only [Act.put, List.setIfInBounds_toArray, List.set_cons_zero, List.set_cons_succ, i64_w, i32_w]
                          rfl
                        refine take_ (i := 2) (N := some 53) (v := ?_) (a' := ?_) #[true, true, true, true, false, false, false, false, false, true, true, true, true, false, false, false, false] rfl rfl (take_ofW HT_.out HW_.out (by kernel_rfl)) (fun _ _ _ h => h) (Or.inl ⟨by rfl, ?_⟩) hHeld ?_ ?_
                        rotate_left
                        · rintro w' ⟨s0, s1, s2, s3, s4, s5, s6, s7, s8, s9, s10, s11, s12⟩
                          go_simp
                          with_reducible rfl
                        rotate_left
                        · simp only [Act.put, List.setIfInBounds_toArray, List.set_cons_zero, List.set_cons_succ, i64_w, i32_w]
                          rfl
                        refine pure_ (i := 4) (N := some 55) (v := ?_) (a' := ?_) #[true, true, true, true, true, false, false, false, false, true, true, true, true, false, false, false, false] rfl rfl (any_of HT_.out (by kernel_rfl)) (fun _ _ _ h => h) (Or.inl ⟨by rfl, ?_⟩) ?_ ?_
                        rotate_left
                        · intro w'
                          go_simp
                          with_reducible rfl
                        rotate_left
                        · simp only [Act.put, List.setIfInBounds_toArray, List.set_cons_zero, List.set_cons_succ, i64_w, i32_w]
                          rfl
                        refine pure_ (i := 5) (N := some 56) (v := ?_) (a' := ?_) #[true, true, true, true, true, true, false, false, false, true, true, true, true, false, false, false, false] rfl rfl (any_of HT_.out (by kernel_rfl)) (fun _ _ _ h => h) (Or.inl ⟨by rfl, ?_⟩) ?_ ?_
                        rotate_left
                        · intro w'
                          go_simp
                          with_reducible rfl
                        rotate_left
                        · simp only [Act.put, List.setIfInBounds_toArray, List.set_cons_zero, List.set_cons_succ, i64_w, i32_w]
                          rfl
                        refine take_ (i := 6) (N := some 57) (v := ?_) (a' := ?_) #[true, true, true, true, true, true, true, false, false, true, true, true, true, false, false, false, false] rfl rfl (take_ofW HT_.out HW_.out (by kernel_rfl)) (fun _ _ _ h => h) (Or.inl ⟨by rfl, ?_⟩) hHeld ?_ ?_
                        rotate_left
                        · rintro w' ⟨s0, s1, s2, s3, s4, s5, s6, s7, s8, s9, s10, s11, s12⟩
                          go_simp
                          with_reducible rfl
                        rotate_left
                        · simp only [Act.put, List.setIfInBounds_toArray, List.set_cons_zero, List.set_cons_succ, i64_w, i32_w]
                          rfl
                        refine pure_ (i := 7) (N := some 58) (v := ?_) (a' := ?_) #[true, true, true, true, true, true, true, true, false, true, true, true, true, false, false, false, false] rfl rfl (any_of HT_.out (by kernel_rfl)) (fun _ _ _ h => h) (Or.inl ⟨by rfl, ?_⟩) ?_ ?_
                        rotate_left
                        · intro w'
                          go_simp
                          with_reducible rfl
                        rotate_left
                        · simp only [Act.put, List.setIfInBounds_toArray, List.set_cons_zero, List.set_cons_succ, i64_w, i32_w]
                          rfl
                        refine take_ (i := 8) (N := some 59) (v := ?_) (a' := ?_) #[true, true, true, true, true, true, true, true, true, true, true, true, true, false, false, false, false] rfl rfl (take_ofW HT_.out HW_.out (by kernel_rfl)) (fun _ _ _ h => h) (Or.inl ⟨by rfl, ?_⟩) hHeld ?_ ?_
                        rotate_left
                        · rintro w' ⟨s0, s1, s2, s3, s4, s5, s6, s7, s8, s9, s10, s11, s12⟩
                          go_simp
                          with_reducible rfl
                        rotate_left
                        · simp only [Act.put, List.setIfInBounds_toArray, List.set_cons_zero, List.set_cons_succ, i64_w, i32_w]
                          rfl
                        refine take_ (i := 13) (N := some 64) (v := ?_) (a' := ?_) #[true, true, true, true, true, true, true, true, true, true, true, true, true, true, false, false, false] rfl rfl (take_ofW HT_.out HW_.out (by kernel_rfl)) (fun _ _ _ h => h) (Or.inl ⟨by rfl, ?_⟩) hHeld ?_ ?_
                        rotate_left
                        · rintro w' ⟨s0, s1, s2, s3, s4, s5, s6, s7, s8, s9, s10, s11, s12⟩
                          go_simp
                          with_reducible rfl
                        rotate_left
                        · simp only [Act.put, List.setIfInBounds_toArray, List.set_cons_zero, List.set_cons_succ, i64_w, i32_w]
                          rfl
                        refine pure_ (i := 14) (N := some 65) (v := ?_) (a' := ?_) #[true, true, true, true, true, true, true, true, true, true, true, true, true, true, true, false, false] rfl rfl (any_of HT_.out (by kernel_rfl)) (fun _ _ _ h => h) (Or.inl ⟨by rfl, ?_⟩) ?_ ?_
                        rotate_left
                        · intro w'
                          go_simp
                          with_reducible rfl
                        rotate_left
                        · simp only [Act.put, List.setIfInBounds_toArray, List.set_cons_zero, List.set_cons_succ, i64_w, i32_w]
                          rfl
                        refine pure_ (i := 15) (N := some 66) (v := ?_) (a' := ?_) #[true, true, true, true, true, true, true, true, true, true, true, true, true, true, true, true, false] rfl rfl (any_of HT_.out (by kernel_rfl)) (fun _ _ _ h => h) (Or.inl ⟨by rfl, ?_⟩) ?_ ?_
                        rotate_left
                        · intro w'
                          go_simp
                          with_reducible rfl
                        rotate_left
                        · simp only [Act.put, List.setIfInBounds_toArray, List.set_cons_zero, List.set_cons_succ, i64_w, i32_w]
                          rfl
                        refine last_ (i := 16) (N := none) #[true, true, true, true, true, true, true, true, true, true, true, true, true, true, true, true, true] rfl rfl (one_of HT_.out (by kernel_rfl)) (by decide) (fun K hK => ?_)
                        refine skip_ (w1 := ?_) (by rfl) rfl ?_ ?_
                        rotate_left
                        · go_simp
                          rfl
                        refine hK.out _ _ ?_
                        clear hK K
                        refine done_ (done_of HT_.out (by kernel_rfl)) ?_
                        try go_wp2
                        go_roundg k1
                        case measure => have := HK1.out; omega
                        case rel => exact ⟨(y140), (y144), (wrap64 (x10_1 + 1)), (by first | rfl | (simp; done) | (simp [*]; done)), H', ⟨by have := HK1.out; omega⟩, ⟨by (with_reducible repeat (first | apply Kd.R_alloc | apply Kd.R_drewN | apply Kd.R_drew)); exact Kd.R_mono (Kd.R_far (p := ⟨go25, (((rd_T47 l0_1 x10_1).f1) : Int).toNat, none⟩) (Kd.R_types HO_6.out GG25.out (by decide)) (fun _ hk => hk.2) (.int .i64 (wrap64 ((rd x9_1 ((rd_T47 l0_1 x10_1).f1)) + ((rd_T49 t125 x10_1).f3))))) (fun _ hk => trivial)⟩, ⟨by (with_reducible repeat (first | apply Kd.R_alloc | apply Kd.R_drewN | apply Kd.R_drew)); exact Kd.R_mono (Kd.R_far (p := ⟨go25, (((rd_T47 l0_1 x10_1).f1) : Int).toNat, none⟩) (Kd.R_mono HO_8.out (fun k_ hk => (⟨hk, fun e_ => hk (by rw [e_]; rfl)⟩ : _ ∧ k_ ≠ go25))) (fun _ hk => hk.2) (.int .i64 (wrap64 ((rd x9_1 ((rd_T47 l0_1 x10_1).f1)) + ((rd_T49 t125 x10_1).f3))))) (fun _ hk => hk.1)⟩, ⟨by (with_reducible repeat (first | apply Kd.R_alloc | apply Kd.R_drewN | apply Kd.R_drew)); exact HQ33.out⟩, ⟨by (with_reducible repeat (first | refine blk_drewN ?_ _ | refine blk_drew ?_ | refine blk_alloc ?_ _)); refine blk_far ?_ (by have h_ := Kd.R_ne HO_9.out BK123.out (by decide); intro e_; exact h_ (by rw [e_]; rfl)) _; (with_reducible repeat (first | refine blk_drewN ?_ _ | refine blk_drew ?_ | refine blk_alloc ?_ _)); exact BK123.out⟩, ⟨by repeat (first | (with_reducible first | exact HB.out | apply below_alloc | apply pw_below_drewN | apply below_drew1 | refine below_set ?_ GB25.out | refine below_set ?_ GE123.out) | exact HB.out)⟩⟩
                      · rw [if_neg c24] at H
                        exact absurd H (by simp)
                    · rw [if_neg c22] at H
                      exact absurd H (by simp)
                  · rw [if_neg c21] at H
                    exact absurd H (by simp)
                · rw [if_neg c20] at H
                  exact absurd H (by simp)
              · rw [if_neg c19] at H
                exact absurd H (by simp)
            · rw [if_neg c18] at H
              have c18b0 : decide (x10_1 < (t125.length : Int)) = false := decide_eq_false c18
              clear c18
              simp only [Option.some.injEq, Prod.mk.injEq] at H
              obtain ⟨rfl, rfl, rfl⟩ := H
              obtain ⟨Ao34, co34, eo34⟩ := Kd.R_slice HO_6.out
              subst eo34
              go_wp2
              go_ret3
              exact ⟨_, _, by first | rfl | (simp [errW_none, errW_some] <;> rfl) | (simp [*, errW_none, errW_some] <;> rfl), by (with_reducible repeat (first | apply Kd.R_alloc | apply Kd.R_drewN | apply Kd.R_drew)); exact HO_8.out, by (with_reducible repeat (first | apply Kd.R_alloc | apply Kd.R_drewN | apply Kd.R_drew)); exact HO_9.out, by repeat (first | (with_reducible first | exact HB.out | apply below_alloc | apply pw_below_drewN | apply below_drew1 | refine below_set ?_ GE123.out) | exact HB.out)⟩
      · rw [if_neg c6] at H
        exact absurd H (by simp)
    · rw [if_neg c5] at H
      exact absurd H (by simp)
  · rw [if_neg c3] at H
    have c3b0 : (t124 == 0) = false := beq_eq_false_iff_ne.mpr c3
    have c3b1 : (t124 != 0) = true := bne_iff_ne.mpr c3
    simp only [Option.some.injEq, Prod.mk.injEq] at H
    obtain ⟨rfl, rfl, rfl⟩ := H
    go_enter Tryd.func15, Tryd.ntmps15
    go_wp2_with (first | ((with_reducible refine gate_dst (N := 1) rfl ?_); refine box_event ?hg (N := 1) ?hd (cs := #[.slice A0_0 l0_0.length c0_0, .slice A0_1 l0_1.length c0_1, .slice A0_2 l0_2.length c0_2]) (t := 26) ?hr ?_; (case hd => rfl); (case hg => rfl); (case hr => first | (go_simp; done) | (go_simp; rfl)); intro gb123 hg w35 hbox hb; have n0_ := Aside0.mk (below_step (by repeat (first | (with_reducible first | exact HB.out | apply below_alloc | apply pw_below_drewN | apply below_drew1) | exact HB.out)) hb); have n1_ := Aside0.mk (hbox); have n2_ := Aside0.mk ((by rw [hg]; exact (below_size (by repeat (first | (with_reducible first | exact HB.out | apply below_alloc | apply pw_below_drewN | apply below_drew1) | exact HB.out))) : w.heap.size ≤ gb123)); have n3_ := Aside0.mk ((by rw [hg]; exact (below_size (by repeat (first | (with_reducible first | exact HB.out | apply below_alloc | apply pw_below_drewN | apply below_drew1) | exact HB.out))) : w.heap.size ≤ gb123)); clear HB; have HB := n0_; have BK123 := n1_; have GW123 := n2_; have GE123 := n3_; clear n0_ n1_ n2_ n3_; clear hb hbox hg; have hcz36_0 : w35.cell? ⟨gb123, 0, none⟩ = some (.slice A0_0 l0_0.length c0_0) := (blk_cell BK123.out 0).trans rfl; have hcz36_1 : w35.cell? ⟨gb123, 1, none⟩ = some (.slice A0_1 l0_1.length c0_1) := (blk_cell BK123.out 1).trans rfl; have hcz36_2 : w35.cell? ⟨gb123, 2, none⟩ = some (.slice A0_2 l0_2.length c0_2) := (blk_cell BK123.out 2).trans rfl; have hfz36_0 := blk_frozen BK123.out 0; have hfz36_1 := blk_frozen BK123.out 1; have hfz36_2 := blk_frozen BK123.out 2) | ((with_reducible refine gate_callee (f := 47) rfl ?_); refine goesL_ (some 12) rfl rfl Tryd.func47 (by kernel_rfl) rfl #[.agg #[.slice A0_0 l0_0.length c0_0, .slice A0_1 l0_1.length c0_1, .slice A0_2 l0_2.length c0_2]] rfl (by (try simp only [List.map_toArray, List.map_cons, List.map_nil]); first | done | rfl | (simp only [List.length_drop, List.length_take]; rfl)) ?_; (with_reducible refine (wishbookref10_Check.calls _ _ l0_0 _ _ l0_1 _ _ l0_2 t124 _ ?side1 ?side2 ?side3 ?side4 ?side5 ?side6 A2.out).mono ?_); (case side1 => repeat (first | exact (Kd.C_below HR0_0.out HB.out) | (with_reducible refine Kd.C_alloc ?_ _) | (with_reducible refine Kd.C_drewN ?_ _) | (with_reducible refine Kd.C_drew ?_))); (case side2 => exact HC0_0.out); (case side3 => repeat (first | exact (Kd.C_below HR0_1.out HB.out) | (with_reducible refine Kd.C_alloc ?_ _) | (with_reducible refine Kd.C_drewN ?_ _) | (with_reducible refine Kd.C_drew ?_))); (case side4 => exact HC0_1.out); (case side5 => repeat (first | exact (Kd.C_below HR0_2.out HB.out) | (with_reducible refine Kd.C_alloc ?_ _) | (with_reducible refine Kd.C_drewN ?_ _) | (with_reducible refine Kd.C_drew ?_))); (case side6 => exact HC0_2.out); rintro e w37 ⟨rfl, hb⟩; refine ⟨_, rfl, ?_⟩; have n0_ := Aside0.mk (blk_below (g := gb123) (o := .cells #[.slice A0_0 l0_0.length c0_0, .slice A0_1 l0_1.length c0_1, .slice A0_2 l0_2.length c0_2] 26 (0, 0)) (by (with_reducible repeat (first | refine blk_drewN ?_ _ | refine blk_drew ?_ | refine blk_alloc ?_ _)); exact BK123.out) hb); have n1_ := Aside0.mk (below_step (by repeat (first | (with_reducible first | exact HB.out | apply below_alloc | apply pw_below_drewN | apply below_drew1 | refine below_set ?_ GE123.out) | exact HB.out)) hb); clear BK123; clear HB; have BK123 := n0_; have HB := n1_; clear n0_ n1_; (try clear hb); (try clear hb2); (try clear hk); (try clear hi)))
    go_ret3
    exact ⟨_, _, by first | rfl | (simp [errW_none, errW_some] <;> rfl) | (simp [*, errW_none, errW_some] <;> rfl), by first | exact Kd.R_nil _ _ _ _ _ | exact Kd.N_nil _ _ _ _ _ | exact Kd.V_nil _ _ _ _ _ | exact Kd.Q_nil _ _ _ _ _ | exact Kd.S_nil _ _ _ _ _, by first | exact Kd.R_nil _ _ _ _ _ | exact Kd.N_nil _ _ _ _ _ | exact Kd.V_nil _ _ _ _ _ | exact Kd.Q_nil _ _ _ _ _ | exact Kd.S_nil _ _ _ _ _, by repeat (first | (with_reducible first | exact HB.out | apply below_alloc | apply pw_below_drewN | apply below_drew1 | refine below_set ?_ GE123.out) | exact HB.out)⟩
end Go.Proofs.YtegpepnmnlockaaDoor.PL
namespace Go.Proofs.YtegpepnmnlockaaDoor.PL
open Go.RowKit Go.Proofs.YtegpepnmnlockaaDoorW.PrintWords Go.Proofs.YtegpepnmnlockaaDoorW.PrintLast Go.Proofs.YtegpepnmnlockaaDoorW.PrintMore
set_option linter.unusedVariables false
set_option linter.unusedSimpArgs false
theorem RCheck_f (l0 : List Int) (l1 : List S47) (l2 : List S57) (hf : Few l0 l1 l2) : wishbookref10_Check.f l0 l1 l2 = some (if okB l0 l1 l2 = true then 0 else 100) := by
  unfold wishbookref10_Check.f
  rw [if_pos hf]
  rfl
theorem Match_l0 (xs : List Int) (hl : (xs.length : Int) < 9000000000000000000) : ∀ (d i k : Nat), i + d = xs.length → d + 1 ≤ k → wishbookref00_Match.l0 k xs xs true i = some true
  | 0, i, k + 1, hi, hk => by
    unfold wishbookref00_Match.l0
    rw [if_pos rfl, if_neg (by omega)]
  | d + 1, i, k + 1, hi, hk => by
    have ih := Match_l0 xs hl d (i + 1) k (by omega) (by omega)
    unfold wishbookref00_Match.l0
    rw [if_pos rfl, if_pos (by omega), if_pos (by omega), if_pos (by omega), wrap_succ (by omega), beq_self_eq_true]
    exact ih
theorem Match_f (xs : List Int) (hl : (xs.length : Int) < 9000000000000000000) (k : Nat) (hk : xs.length + 1 ≤ k) : wishbookref00_Match.f k xs xs = some true := by
  unfold wishbookref00_Match.f
  rw [beq_self_eq_true]
  exact Match_l0 xs hl xs.length 0 k (by omega) hk
end Go.Proofs.YtegpepnmnlockaaDoor.PL
namespace Go.Proofs.YtegpepnmnlockaaDoor.PL
open Go.RowKit Go.Proofs.YtegpepnmnlockaaDoorW.PrintWords Go.Proofs.YtegpepnmnlockaaDoorW.PrintLast Go.Proofs.YtegpepnmnlockaaDoorW.PrintMore
attribute [local go_sem] max2_int min2_int max_two min_two max_three min_three max_four min_four   -- for this text's walks alone
set_option linter.unusedVariables false
set_option linter.unusedSimpArgs false
def wishbooklaw10_LackWholes.j0 : Nat → Bool → List Int → List (S47) → List (S57) → Option (Bool)
  | 0, _, _, _, _ => none
  | k + 1, x37, x227000, x227001, x227002 => if x37 = true then (some false) else ((lack_Whole.f x227000 x227001 x227002).bind fun bt243 => ((wishbookref10_Whole.f k x227000 x227001 x227002).bind fun bt247 => ((wishbookref00_Match.f k bt243.1 bt247.1).bind fun t251 => (if t251 = true then (if bt243.2 = bt247.2 then ((wishbooklaw10_listed.f).bind fun t252 => (some t252)) else (some false)) else (some false)))))
def wishbooklaw10_LackWholes.f (k : Nat) (l0_0 : List Int) (l0_1 : List (S47)) (l0_2 : List (S57)) : Option (Bool) := (lack_Missing.f l0_0 l0_1 l0_2).bind fun bt227 => ((wishbookref10_Missing.f k l0_0 l0_1 l0_2).bind fun bt234 => ((wishbookref00_Match.f k bt227.1 bt234.1).bind fun t241 => (if t241 = true then ((wishbookref00_Match.f k bt227.2.1 bt234.2.1).bind fun t242 => (if t242 = true then (wishbooklaw10_LackWholes.j0 k (bt227.2.2 != bt234.2.2) l0_0 l0_1 l0_2) else (wishbooklaw10_LackWholes.j0 k true l0_0 l0_1 l0_2))) else (wishbooklaw10_LackWholes.j0 k true l0_0 l0_1 l0_2))))
theorem wishbooklaw10_LackWholes.mono_l : ∀ k, (∀ y0 y1 y2 y3, LeO (wishbooklaw10_LackWholes.j0 k y0 y1 y2 y3) (wishbooklaw10_LackWholes.j0 (k + 1) y0 y1 y2 y3))
  | 0 => fun _ _ _ _ r h => by simp [wishbooklaw10_LackWholes.j0] at h
  | k + 1 => by
    have ih0 := wishbooklaw10_LackWholes.mono_l k
    · intro y0 y1 y2 y3
      unfold wishbooklaw10_LackWholes.j0
      repeat' first
      | (with_reducible exact ih0 _ _ _ _)
      | (with_reducible exact wishbookref00_Match.mono _ _ _)
      | (with_reducible exact wishbookref10_Missing.mono _ _ _ _)
      | (with_reducible exact wishbookref10_Whole.mono _ _ _ _)
      | (with_reducible exact LeO.refl _)
      | (with_reducible exact LeO.none _)
      | (with_reducible refine LeO.ite ?_ ?_)
      | (with_reducible refine LeO.bind ?_ (fun _ => ?_))
      | exact ih0 _ _ _ _
      | exact wishbookref00_Match.mono _ _ _
      | exact wishbookref10_Missing.mono _ _ _ _
      | exact wishbookref10_Whole.mono _ _ _ _
      | exact LeO.none _
      | refine LeO.ite ?_ ?_
      | refine LeO.bind ?_ (fun _ => ?_)
theorem wishbooklaw10_LackWholes.mono : ∀ a0 a1 a2 k, LeO (wishbooklaw10_LackWholes.f k a0 a1 a2) (wishbooklaw10_LackWholes.f (k + 1) a0 a1 a2) := by
  intro a0 a1 a2 k
  have ih0 := wishbooklaw10_LackWholes.mono_l k
  unfold wishbooklaw10_LackWholes.f
  repeat' first
      | (with_reducible exact ih0 _ _ _ _)
      | (with_reducible exact wishbookref00_Match.mono _ _ _)
      | (with_reducible exact wishbookref10_Missing.mono _ _ _ _)
      | (with_reducible exact wishbookref10_Whole.mono _ _ _ _)
      | (with_reducible exact LeO.refl _)
      | (with_reducible exact LeO.none _)
      | (with_reducible refine LeO.ite ?_ ?_)
      | (with_reducible refine LeO.bind ?_ (fun _ => ?_))
      | exact ih0 _ _ _ _
      | exact wishbookref00_Match.mono _ _ _
      | exact wishbookref10_Missing.mono _ _ _ _
      | exact wishbookref10_Whole.mono _ _ _ _
      | exact LeO.none _
      | refine LeO.ite ?_ ?_
      | refine LeO.bind ?_ (fun _ => ?_)
set_option maxHeartbeats 8000000 in
set_option maxRecDepth 100000 in
theorem wishbooklaw10_LackWholes.calls (k : Nat) (A0_0 : Option Addr) (c0_0 : Nat) (l0_0 : List Int) (A0_1 : Option Addr) (c0_1 : Nat) (l0_1 : List (S47)) (A0_2 : Option Addr) (c0_2 : Nat) (l0_2 : List (S57)) (r : Bool) (w : World) (hr0_0 : Kd.C (Kd.int .i64) w A0_0 l0_0.length l0_0) (hc0_0 : l0_0.length ≤ c0_0) (hr0_1 : Kd.C k47 w A0_1 l0_1.length l0_1) (hc0_1 : l0_1.length ≤ c0_1) (hr0_2 : Kd.C k57 w A0_2 l0_2.length l0_2) (hc0_2 : l0_2.length ≤ c0_2) (hfa : Fates w) (h : wishbooklaw10_LackWholes.f k l0_0 l0_1 l0_2 = some r) :
    Calls Tryd.prog 3 #[.agg #[.slice A0_0 l0_0.length c0_0, .slice A0_1 l0_1.length c0_1, .slice A0_2 l0_2.length c0_2]] w fun e w' => e = .returned (.bool r) ∧ Below w.heap.size w w' := by
  have HFA := Aside0.mk hfa
  clear hfa
  have hu26 := Tryd.underlying26
  have HR0_0 := Aside0.mk hr0_0
  have HC0_0 := Aside0.mk hc0_0
  clear hr0_0 hc0_0
  have HR0_1 := Aside0.mk hr0_1
  have HC0_1 := Aside0.mk hc0_1
  clear hr0_1 hc0_1
  have HR0_2 := Aside0.mk hr0_2
  have HC0_2 := Aside0.mk hc0_2
  clear hr0_2 hc0_2
  have HB := Aside0.mk (Below.refl w.heap.size w)
  have H : ((lack_Missing.f l0_0 l0_1 l0_2).bind fun bt227 => ((wishbookref10_Missing.f k l0_0 l0_1 l0_2).bind fun bt234 => ((wishbookref00_Match.f k bt227.1 bt234.1).bind fun t241 => (if t241 = true then ((wishbookref00_Match.f k bt227.2.1 bt234.2.1).bind fun t242 => (if t242 = true then (wishbooklaw10_LackWholes.j0 k (bt227.2.2 != bt234.2.2) l0_0 l0_1 l0_2) else (wishbooklaw10_LackWholes.j0 k true l0_0 l0_1 l0_2))) else (wishbooklaw10_LackWholes.j0 k true l0_0 l0_1 l0_2))))) = some r := h
  clear h
  replace H := Option.bind_eq_some_iff.mp H
  obtain ⟨⟨t227, t230, t233⟩, A20, H⟩ := H
  replace H : ((wishbookref10_Missing.f k l0_0 l0_1 l0_2).bind fun bt234 => ((wishbookref00_Match.f k t227 bt234.1).bind fun t241 => (if t241 = true then ((wishbookref00_Match.f k t230 bt234.2.1).bind fun t242 => (if t242 = true then (wishbooklaw10_LackWholes.j0 k (t233 != bt234.2.2) l0_0 l0_1 l0_2) else (wishbooklaw10_LackWholes.j0 k true l0_0 l0_1 l0_2))) else (wishbooklaw10_LackWholes.j0 k true l0_0 l0_1 l0_2)))) = some r := H
  have A2 := Aside0.mk A20
  clear A20
  replace H := Option.bind_eq_some_iff.mp H
  obtain ⟨⟨t234, t237, t240⟩, A30, H⟩ := H
  replace H : ((wishbookref00_Match.f k t227 t234).bind fun t241 => (if t241 = true then ((wishbookref00_Match.f k t230 t237).bind fun t242 => (if t242 = true then (wishbooklaw10_LackWholes.j0 k (t233 != t240) l0_0 l0_1 l0_2) else (wishbooklaw10_LackWholes.j0 k true l0_0 l0_1 l0_2))) else (wishbooklaw10_LackWholes.j0 k true l0_0 l0_1 l0_2))) = some r := H
  have A3 := Aside0.mk A30
  clear A30
  have HC4 := Aside0.mk H
  clear H
  go_enter Tryd.func3, Tryd.ntmps3
  go_upto_region 3 with (first | ((with_reducible refine gate_dst (N := 1) rfl ?_); refine box_event ?hg (N := 1) ?hd (cs := #[.slice A0_0 l0_0.length c0_0, .slice A0_1 l0_1.length c0_1, .slice A0_2 l0_2.length c0_2]) (t := 26) ?hr ?_; (case hd => rfl); (case hg => rfl); (case hr => first | (go_simp; done) | (go_simp; rfl)); intro gb226 hg w5 hbox hb; have n0_ := Aside0.mk (below_step (by repeat (first | (with_reducible first | exact HB.out | apply below_alloc | apply pw_below_drewN | apply below_drew1) | exact HB.out)) hb); have n1_ := Aside0.mk (hbox); have n2_ := Aside0.mk ((by rw [hg]; exact (below_size (by repeat (first | (with_reducible first | exact HB.out | apply below_alloc | apply pw_below_drewN | apply below_drew1) | exact HB.out))) : w.heap.size ≤ gb226)); have n3_ := Aside0.mk ((by rw [hg]; exact (below_size (by repeat (first | (with_reducible first | exact HB.out | apply below_alloc | apply pw_below_drewN | apply below_drew1) | exact HB.out))) : w.heap.size ≤ gb226)); clear HB; have HB := n0_; have BK226 := n1_; have GW226 := n2_; have GE226 := n3_; clear n0_ n1_ n2_ n3_; clear hb hbox hg; have hcz6_0 : w5.cell? ⟨gb226, 0, none⟩ = some (.slice A0_0 l0_0.length c0_0) := (blk_cell BK226.out 0).trans rfl; have hcz6_1 : w5.cell? ⟨gb226, 1, none⟩ = some (.slice A0_1 l0_1.length c0_1) := (blk_cell BK226.out 1).trans rfl; have hcz6_2 : w5.cell? ⟨gb226, 2, none⟩ = some (.slice A0_2 l0_2.length c0_2) := (blk_cell BK226.out 2).trans rfl; have hfz6_0 := blk_frozen BK226.out 0; have hfz6_1 := blk_frozen BK226.out 1; have hfz6_2 := blk_frozen BK226.out 2) | ((with_reducible refine gate_callee (f := 14) rfl ?_); refine goesL_ (some 13) rfl rfl Tryd.func14 (by kernel_rfl) rfl #[.agg #[.slice A0_0 l0_0.length c0_0, .slice A0_1 l0_1.length c0_1, .slice A0_2 l0_2.length c0_2]] rfl (by (try simp only [List.map_toArray, List.map_cons, List.map_nil]); first | done | rfl | (simp only [List.length_drop, List.length_take]; rfl)) ?_; (with_reducible refine (lack_Missing.calls _ _ l0_0 _ _ l0_1 _ _ l0_2 t227 t230 t233 _ ?side1 ?side2 ?side3 ?side4 ?side5 ?side6 ?sideF A2.out).mono ?_); (case side1 => repeat (first | exact (Kd.C_below HR0_0.out HB.out) | (with_reducible refine Kd.C_alloc ?_ _) | (with_reducible refine Kd.C_drewN ?_ _) | (with_reducible refine Kd.C_drew ?_))); (case side2 => exact HC0_0.out); (case side3 => repeat (first | exact (Kd.C_below HR0_1.out HB.out) | (with_reducible refine Kd.C_alloc ?_ _) | (with_reducible refine Kd.C_drewN ?_ _) | (with_reducible refine Kd.C_drew ?_))); (case side4 => exact HC0_1.out); (case side5 => repeat (first | exact (Kd.C_below HR0_2.out HB.out) | (with_reducible refine Kd.C_alloc ?_ _) | (with_reducible refine Kd.C_drewN ?_ _) | (with_reducible refine Kd.C_drew ?_))); (case side6 => exact HC0_2.out); (case sideF => exact Fates.below HFA.out (by repeat (first | (with_reducible first | exact HB.out | apply below_alloc | apply pw_below_drewN | apply below_drew1 | refine below_set ?_ GE226.out) | exact HB.out))); rintro e w7 ⟨v228, v231, rfl, ho0, ho1, hb⟩; refine ⟨_, rfl, ?_⟩; have n0_ := Aside0.mk (Kd.V_lower (Kd.V_mono (ok' := fun k_ => k_ ≠ gb226) ho0 (fun k_ hk_ => (Kd.freshB (g := gb226) (o := .cells #[.slice A0_0 l0_0.length c0_0, .slice A0_1 l0_1.length c0_1, .slice A0_2 l0_2.length c0_2] 26 (0, 0)) (by (with_reducible repeat (first | refine blk_drewN ?_ _ | refine blk_drew ?_ | refine blk_alloc ?_ _)); exact BK226.out) k_ hk_))) (below_size (by repeat (first | (with_reducible first | exact HB.out | apply below_alloc | apply pw_below_drewN | apply below_drew1 | refine below_set ?_ GE226.out) | exact HB.out)))); have n1_ := Aside0.mk (Kd.V_lower (Kd.V_mono (ok' := fun k_ => k_ ≠ gb226) ho1 (fun k_ hk_ => (Kd.freshB (g := gb226) (o := .cells #[.slice A0_0 l0_0.length c0_0, .slice A0_1 l0_1.length c0_1, .slice A0_2 l0_2.length c0_2] 26 (0, 0)) (by (with_reducible repeat (first | refine blk_drewN ?_ _ | refine blk_drew ?_ | refine blk_alloc ?_ _)); exact BK226.out) k_ hk_))) (below_size (by repeat (first | (with_reducible first | exact HB.out | apply below_alloc | apply pw_below_drewN | apply below_drew1 | refine below_set ?_ GE226.out) | exact HB.out)))); have n2_ := Aside0.mk (blk_below (g := gb226) (o := .cells #[.slice A0_0 l0_0.length c0_0, .slice A0_1 l0_1.length c0_1, .slice A0_2 l0_2.length c0_2] 26 (0, 0)) (by (with_reducible repeat (first | refine blk_drewN ?_ _ | refine blk_drew ?_ | refine blk_alloc ?_ _)); exact BK226.out) hb); have n3_ := Aside0.mk (below_step (by repeat (first | (with_reducible first | exact HB.out | apply below_alloc | apply pw_below_drewN | apply below_drew1 | refine below_set ?_ GE226.out) | exact HB.out)) hb); clear BK226; clear HB; have HO229 := n0_; have HO232 := n1_; have BK226 := n2_; have HB := n3_; clear n0_ n1_ n2_ n3_; (try clear hb); (try clear hb2); (try clear hk); (try clear hi); (try clear ho0); (try clear ho1); have hcz8_0 : w7.cell? ⟨gb226, 0, none⟩ = some (.slice A0_0 l0_0.length c0_0) := (blk_cell BK226.out 0).trans rfl; have hcz8_1 : w7.cell? ⟨gb226, 1, none⟩ = some (.slice A0_1 l0_1.length c0_1) := (blk_cell BK226.out 1).trans rfl; have hcz8_2 : w7.cell? ⟨gb226, 2, none⟩ = some (.slice A0_2 l0_2.length c0_2) := (blk_cell BK226.out 2).trans rfl; have hfz8_0 := blk_frozen BK226.out 0; have hfz8_1 := blk_frozen BK226.out 1; have hfz8_2 := blk_frozen BK226.out 2) | ((with_reducible refine gate_callee (f := 15) rfl ?_); refine goesL_ (some 19) rfl rfl Tryd.func15 (by kernel_rfl) rfl #[.agg #[.slice A0_0 l0_0.length c0_0, .slice A0_1 l0_1.length c0_1, .slice A0_2 l0_2.length c0_2]] rfl (by (try simp only [List.map_toArray, List.map_cons, List.map_nil]); first | done | rfl | (simp only [List.length_drop, List.length_take]; rfl)) ?_; (with_reducible refine (wishbookref10_Missing.calls k _ _ l0_0 _ _ l0_1 _ _ l0_2 t234 t237 t240 _ ?side1 ?side2 ?side3 ?side4 ?side5 ?side6 A3.out).mono ?_); (case side1 => repeat (first | exact (Kd.C_below HR0_0.out HB.out) | (with_reducible refine Kd.C_alloc ?_ _) | (with_reducible refine Kd.C_drewN ?_ _) | (with_reducible refine Kd.C_drew ?_))); (case side2 => exact HC0_0.out); (case side3 => repeat (first | exact (Kd.C_below HR0_1.out HB.out) | (with_reducible refine Kd.C_alloc ?_ _) | (with_reducible refine Kd.C_drewN ?_ _) | (with_reducible refine Kd.C_drew ?_))); (case side4 => exact HC0_1.out); (case side5 => repeat (first | exact (Kd.C_below HR0_2.out HB.out) | (with_reducible refine Kd.C_alloc ?_ _) | (with_reducible refine Kd.C_drewN ?_ _) | (with_reducible refine Kd.C_drew ?_))); (case side6 => exact HC0_2.out); rintro e w9 ⟨v235, v238, rfl, ho0, ho1, hb⟩; refine ⟨_, rfl, ?_⟩; have n0_ := Aside0.mk (Kd.V_mono (Kd.V_told (Kd.V_told (Kd.V_old (by (with_reducible repeat (first | apply Kd.V_alloc | apply Kd.V_drewN | apply Kd.V_drew)); exact HO229.out) hb) (Kd.R_base ho0)) (Kd.R_base ho1)) (fun _ h_ => h_.1)); have n1_ := Aside0.mk (Kd.V_mono (Kd.V_told (Kd.V_told (Kd.V_old (by (with_reducible repeat (first | apply Kd.V_alloc | apply Kd.V_drewN | apply Kd.V_drew)); exact HO232.out) hb) (Kd.R_base ho0)) (Kd.R_base ho1)) (fun _ h_ => h_.1)); have n2_ := Aside0.mk (Kd.R_lower ho0 (below_size (by repeat (first | (with_reducible first | exact HB.out | apply below_alloc | apply pw_below_drewN | apply below_drew1 | refine below_set ?_ GE226.out) | exact HB.out)))); have n3_ := Aside0.mk (Kd.R_lower ho1 (below_size (by repeat (first | (with_reducible first | exact HB.out | apply below_alloc | apply pw_below_drewN | apply below_drew1 | refine below_set ?_ GE226.out) | exact HB.out)))); have n4_ := Aside0.mk (blk_below (g := gb226) (o := .cells #[.slice A0_0 l0_0.length c0_0, .slice A0_1 l0_1.length c0_1, .slice A0_2 l0_2.length c0_2] 26 (0, 0)) (by (with_reducible repeat (first | refine blk_drewN ?_ _ | refine blk_drew ?_ | refine blk_alloc ?_ _)); exact BK226.out) hb); have n5_ := Aside0.mk (below_step (by repeat (first | (with_reducible first | exact HB.out | apply below_alloc | apply pw_below_drewN | apply below_drew1 | refine below_set ?_ GE226.out) | exact HB.out)) hb); clear HO229; clear HO232; clear BK226; clear HB; have HO229 := n0_; have HO232 := n1_; have HO236 := n2_; have HO239 := n3_; have BK226 := n4_; have HB := n5_; clear n0_ n1_ n2_ n3_ n4_ n5_; (try clear hb); (try clear hb2); (try clear hk); (try clear hi); (try clear ho0); (try clear ho1)))
  (try simp only [Act.put, List.setIfInBounds_toArray, List.set_cons_zero, List.set_cons_succ])
  go_cut [37] (fun v37 wc => ∃ (kq : Nat) (x37_3 : Bool), v37 = .bool x37_3 ∧ Aside0 (wishbooklaw10_LackWholes.j0 kq x37_3 l0_0 l0_1 l0_2 = some r) ∧ Aside0 (kq ≤ k) ∧ Aside0 (wc.heap[gb226]? = some (.cells #[(.slice A0_0 l0_0.length c0_0), (.slice A0_1 l0_1.length c0_1), (.slice A0_2 l0_2.length c0_2)] 26 (0, 0))) ∧ Aside0 (Below w.heap.size w wc))
  case first =>
    have H := HC4.out
    clear HC4
    replace H := Option.bind_eq_some_iff.mp H
    obtain ⟨t241, A100, H⟩ := H
    replace H : (if t241 = true then ((wishbookref00_Match.f k t230 t237).bind fun t242 => (if t242 = true then (wishbooklaw10_LackWholes.j0 k (t233 != t240) l0_0 l0_1 l0_2) else (wishbooklaw10_LackWholes.j0 k true l0_0 l0_1 l0_2))) else (wishbooklaw10_LackWholes.j0 k true l0_0 l0_1 l0_2)) = some r := H
    have A10 := Aside0.mk A100
    clear A100
    by_cases c11 : t241 = true
    · subst c11
      have H1 : ((wishbookref00_Match.f k t230 t237).bind fun t242 => (if t242 = true then (wishbooklaw10_LackWholes.j0 k (t233 != t240) l0_0 l0_1 l0_2) else (wishbooklaw10_LackWholes.j0 k true l0_0 l0_1 l0_2))) = some r := by rw [if_pos rfl] at H; exact H
      clear H
      have H := H1
      clear H1
      replace H := Option.bind_eq_some_iff.mp H
      obtain ⟨t242, A120, H⟩ := H
      replace H : (if t242 = true then (wishbooklaw10_LackWholes.j0 k (t233 != t240) l0_0 l0_1 l0_2) else (wishbooklaw10_LackWholes.j0 k true l0_0 l0_1 l0_2)) = some r := H
      have A12 := Aside0.mk A120
      clear A120
      by_cases c13 : t242 = true
      · subst c13
        have H1 : (wishbooklaw10_LackWholes.j0 k (t233 != t240) l0_0 l0_1 l0_2) = some r := by rw [if_pos rfl] at H; exact H
        clear H
        have H := H1
        clear H1
        have H' := Aside0.mk H
        clear H
        obtain ⟨Ao14, co14, eo14⟩ := Kd.V_slice HO229.out
        subst eo14
        obtain ⟨Ao15, co15, eo15⟩ := Kd.R_slice HO236.out
        subst eo15
        go_wp2_with (first | ((with_reducible refine gate_callee (f := 16) rfl ?_); refine goesL_ (some 25) rfl rfl Tryd.func16 (by kernel_rfl) rfl #[.slice Ao14 t227.length co14, .slice Ao15 t234.length co15] rfl (by (try simp only [List.map_toArray, List.map_cons, List.map_nil]); first | done | rfl | (simp only [List.length_drop, List.length_take]; rfl)) ?_; (with_reducible refine (wishbookref00_Match.calls k _ _ t227 _ _ t234 true _ ?side1 ?side2 ?side3 ?side4 A10.out).mono ?_); (case side1 => repeat (first | exact (Kd.V_reads' HO229.out).2.2 | (with_reducible refine Kd.C_alloc ?_ _) | (with_reducible refine Kd.C_drewN ?_ _) | (with_reducible refine Kd.C_drew ?_))); (case side2 => exact (Kd.V_reads' HO229.out).2.1); (case side3 => repeat (first | exact (Kd.R_reads' HO236.out).2.2 | (with_reducible refine Kd.C_alloc ?_ _) | (with_reducible refine Kd.C_drewN ?_ _) | (with_reducible refine Kd.C_drew ?_))); (case side4 => exact (Kd.R_reads' HO236.out).2.1); rintro e w' ⟨rfl, ⟨nd, rfl⟩⟩; refine ⟨_, rfl, ?_⟩; obtain ⟨Ao16, co16, eo16⟩ := Kd.V_slice HO232.out; subst eo16; obtain ⟨Ao17, co17, eo17⟩ := Kd.R_slice HO239.out; subst eo17) | (go_at_call 16; (with_reducible refine (wishbookref00_Match.calls k _ _ t230 _ _ t237 true _ ?side1 ?side2 ?side3 ?side4 A12.out).mono ?_); (case side1 => repeat (first | exact (Kd.V_reads' HO232.out).2.2 | (with_reducible refine Kd.C_alloc ?_ _) | (with_reducible refine Kd.C_drewN ?_ _) | (with_reducible refine Kd.C_drew ?_))); (case side2 => exact (Kd.V_reads' HO232.out).2.1); (case side3 => repeat (first | exact (Kd.R_reads' HO239.out).2.2 | (with_reducible refine Kd.C_alloc ?_ _) | (with_reducible refine Kd.C_drewN ?_ _) | (with_reducible refine Kd.C_drew ?_))); (case side4 => exact (Kd.R_reads' HO239.out).2.1); rintro e w' ⟨rfl, ⟨nd, rfl⟩⟩))
        go_meet
        case rel => exact ⟨_, ((t233 != t240)), (by first | rfl | (simp; done) | (simp [*]; done)), H', ⟨by first | omega | exact Nat.le_refl _⟩, ⟨by (with_reducible repeat (first | refine blk_drewN ?_ _ | refine blk_drew ?_ | refine blk_alloc ?_ _)); exact BK226.out⟩, ⟨by repeat (first | (with_reducible first | exact HB.out | apply below_alloc | apply pw_below_drewN | apply below_drew1 | refine below_set ?_ GE226.out) | exact HB.out)⟩⟩
      · replace c13 := Bool.eq_false_iff.mpr c13
        subst c13
        have H1 : (wishbooklaw10_LackWholes.j0 k true l0_0 l0_1 l0_2) = some r := by rw [if_neg (show ¬ (false = true) by decide)] at H; exact H
        clear H
        have H := H1
        clear H1
        have H' := Aside0.mk H
        clear H
        obtain ⟨Ao18, co18, eo18⟩ := Kd.V_slice HO229.out
        subst eo18
        obtain ⟨Ao19, co19, eo19⟩ := Kd.R_slice HO236.out
        subst eo19
        go_wp2_with (first | ((with_reducible refine gate_callee (f := 16) rfl ?_); refine goesL_ (some 25) rfl rfl Tryd.func16 (by kernel_rfl) rfl #[.slice Ao18 t227.length co18, .slice Ao19 t234.length co19] rfl (by (try simp only [List.map_toArray, List.map_cons, List.map_nil]); first | done | rfl | (simp only [List.length_drop, List.length_take]; rfl)) ?_; (with_reducible refine (wishbookref00_Match.calls k _ _ t227 _ _ t234 true _ ?side1 ?side2 ?side3 ?side4 A10.out).mono ?_); (case side1 => repeat (first | exact (Kd.V_reads' HO229.out).2.2 | (with_reducible refine Kd.C_alloc ?_ _) | (with_reducible refine Kd.C_drewN ?_ _) | (with_reducible refine Kd.C_drew ?_))); (case side2 => exact (Kd.V_reads' HO229.out).2.1); (case side3 => repeat (first | exact (Kd.R_reads' HO236.out).2.2 | (with_reducible refine Kd.C_alloc ?_ _) | (with_reducible refine Kd.C_drewN ?_ _) | (with_reducible refine Kd.C_drew ?_))); (case side4 => exact (Kd.R_reads' HO236.out).2.1); rintro e w' ⟨rfl, ⟨nd, rfl⟩⟩; refine ⟨_, rfl, ?_⟩; obtain ⟨Ao20, co20, eo20⟩ := Kd.V_slice HO232.out; subst eo20; obtain ⟨Ao21, co21, eo21⟩ := Kd.R_slice HO239.out; subst eo21) | (go_at_call 16; (with_reducible refine (wishbookref00_Match.calls k _ _ t230 _ _ t237 false _ ?side1 ?side2 ?side3 ?side4 A12.out).mono ?_); (case side1 => repeat (first | exact (Kd.V_reads' HO232.out).2.2 | (with_reducible refine Kd.C_alloc ?_ _) | (with_reducible refine Kd.C_drewN ?_ _) | (with_reducible refine Kd.C_drew ?_))); (case side2 => exact (Kd.V_reads' HO232.out).2.1); (case side3 => repeat (first | exact (Kd.R_reads' HO239.out).2.2 | (with_reducible refine Kd.C_alloc ?_ _) | (with_reducible refine Kd.C_drewN ?_ _) | (with_reducible refine Kd.C_drew ?_))); (case side4 => exact (Kd.R_reads' HO239.out).2.1); rintro e w' ⟨rfl, ⟨nd, rfl⟩⟩))
        go_meet
        case rel => exact ⟨_, (true), (by first | rfl | (simp; done) | (simp [*]; done)), H', ⟨by first | omega | exact Nat.le_refl _⟩, ⟨by (with_reducible repeat (first | refine blk_drewN ?_ _ | refine blk_drew ?_ | refine blk_alloc ?_ _)); exact BK226.out⟩, ⟨by repeat (first | (with_reducible first | exact HB.out | apply below_alloc | apply pw_below_drewN | apply below_drew1 | refine below_set ?_ GE226.out) | exact HB.out)⟩⟩
    · replace c11 := Bool.eq_false_iff.mpr c11
      subst c11
      have H1 : (wishbooklaw10_LackWholes.j0 k true l0_0 l0_1 l0_2) = some r := by rw [if_neg (show ¬ (false = true) by decide)] at H; exact H
      clear H
      have H := H1
      clear H1
      have H' := Aside0.mk H
      clear H
      obtain ⟨Ao22, co22, eo22⟩ := Kd.V_slice HO229.out
      subst eo22
      obtain ⟨Ao23, co23, eo23⟩ := Kd.R_slice HO236.out
      subst eo23
      go_wp2_with (first | ((with_reducible refine gate_callee (f := 16) rfl ?_); refine goesL_ (some 25) rfl rfl Tryd.func16 (by kernel_rfl) rfl #[.slice Ao22 t227.length co22, .slice Ao23 t234.length co23] rfl (by (try simp only [List.map_toArray, List.map_cons, List.map_nil]); first | done | rfl | (simp only [List.length_drop, List.length_take]; rfl)) ?_; (with_reducible refine (wishbookref00_Match.calls k _ _ t227 _ _ t234 false _ ?side1 ?side2 ?side3 ?side4 A10.out).mono ?_); (case side1 => repeat (first | exact (Kd.V_reads' HO229.out).2.2 | (with_reducible refine Kd.C_alloc ?_ _) | (with_reducible refine Kd.C_drewN ?_ _) | (with_reducible refine Kd.C_drew ?_))); (case side2 => exact (Kd.V_reads' HO229.out).2.1); (case side3 => repeat (first | exact (Kd.R_reads' HO236.out).2.2 | (with_reducible refine Kd.C_alloc ?_ _) | (with_reducible refine Kd.C_drewN ?_ _) | (with_reducible refine Kd.C_drew ?_))); (case side4 => exact (Kd.R_reads' HO236.out).2.1); rintro e w' ⟨rfl, ⟨nd, rfl⟩⟩; refine ⟨_, rfl, ?_⟩))
      go_meet
      case rel => exact ⟨_, (true), (by first | rfl | (simp; done) | (simp [*]; done)), H', ⟨by first | omega | exact Nat.le_refl _⟩, ⟨by (with_reducible repeat (first | refine blk_drewN ?_ _ | refine blk_drew ?_ | refine blk_alloc ?_ _)); exact BK226.out⟩, ⟨by repeat (first | (with_reducible first | exact HB.out | apply below_alloc | apply pw_below_drewN | apply below_drew1 | refine below_set ?_ GE226.out) | exact HB.out)⟩⟩
  case rest =>
    clear HC4
    try clear c1
    try clear p2
    try clear c3
    try clear c11
    try clear c13
    try clear c14
    try clear c15
    try clear c16
    try clear hcz6_0
    try clear hcz6_1
    try clear hcz6_2
    try clear hcz8_0
    try clear hcz8_1
    try clear hcz8_2
    try clear hfz6_0
    try clear hfz6_1
    try clear hfz6_2
    try clear hfz8_0
    try clear hfz8_1
    try clear hfz8_2
    obtain ⟨kq, x37_3, rfl, HA, HJ3, BK226, HB⟩ := hcut
    cases kq with
    | zero => exact absurd HA.out (by simp [wishbooklaw10_LackWholes.j0])
    | succ kj3 =>
      have H := HA.out
      clear HA
      simp only [wishbooklaw10_LackWholes.j0] at H
      by_cases c24 : x37_3 = true
      · subst c24
        have H1 : (some false) = some r := by rw [if_pos rfl] at H; exact H
        clear H
        have H := H1
        clear H1
        obtain rfl := Option.some.inj H
        go_wp2
        go_ret
        exact ⟨by first | rfl | (simp [errW_none, errW_some] <;> rfl) | (simp [*, errW_none, errW_some] <;> rfl), by repeat (first | (with_reducible first | exact HB.out | apply below_alloc | apply pw_below_drewN | apply below_drew1 | refine below_set ?_ GE226.out) | exact HB.out)⟩
      · replace c24 := Bool.eq_false_iff.mpr c24
        subst c24
        have H1 : ((lack_Whole.f l0_0 l0_1 l0_2).bind fun bt243 => ((wishbookref10_Whole.f kj3 l0_0 l0_1 l0_2).bind fun bt247 => ((wishbookref00_Match.f kj3 bt243.1 bt247.1).bind fun t251 => (if t251 = true then (if bt243.2 = bt247.2 then ((wishbooklaw10_listed.f).bind fun t252 => (some t252)) else (some false)) else (some false))))) = some r := by rw [if_neg (show ¬ (false = true) by decide)] at H; exact H
        clear H
        have H := H1
        clear H1
        replace H := Option.bind_eq_some_iff.mp H
        obtain ⟨⟨t243, t246⟩, A250, H⟩ := H
        replace H : ((wishbookref10_Whole.f kj3 l0_0 l0_1 l0_2).bind fun bt247 => ((wishbookref00_Match.f kj3 t243 bt247.1).bind fun t251 => (if t251 = true then (if t246 = bt247.2 then ((wishbooklaw10_listed.f).bind fun t252 => (some t252)) else (some false)) else (some false)))) = some r := H
        have A25 := Aside0.mk A250
        clear A250
        replace H := Option.bind_eq_some_iff.mp H
        obtain ⟨⟨t247, t250⟩, A260, H⟩ := H
        replace H : ((wishbookref00_Match.f kj3 t243 t247).bind fun t251 => (if t251 = true then (if t246 = t250 then ((wishbooklaw10_listed.f).bind fun t252 => (some t252)) else (some false)) else (some false))) = some r := H
        have A26 := Aside0.mk A260
        clear A260
        replace H := Option.bind_eq_some_iff.mp H
        obtain ⟨t251, A270, H⟩ := H
        replace H : (if t251 = true then (if t246 = t250 then ((wishbooklaw10_listed.f).bind fun t252 => (some t252)) else (some false)) else (some false)) = some r := H
        have A27 := Aside0.mk A270
        clear A270
        by_cases c28 : t251 = true
        · subst c28
          have H1 : (if t246 = t250 then ((wishbooklaw10_listed.f).bind fun t252 => (some t252)) else (some false)) = some r := by rw [if_pos rfl] at H; exact H
          clear H
          have H := H1
          clear H1
          by_cases c29 : t246 = t250
          · rw [if_pos c29] at H
            have c29b0 : (t246 == t250) = true := beq_iff_eq.mpr c29
            have c29b1 : (t246 != t250) = false := bne_eq_false_iff_eq.mpr c29
            clear c29
            replace H := Option.bind_eq_some_iff.mp H
            obtain ⟨t252, A300, H⟩ := H
            replace H : (some t252) = some r := H
            have A30 := Aside0.mk A300
            clear A300
            obtain rfl := Option.some.inj H
            have hcz31_0 : wc.cell? ⟨gb226, 0, none⟩ = some (.slice A0_0 l0_0.length c0_0) := (blk_cell BK226.out 0).trans rfl
            have hcz31_1 : wc.cell? ⟨gb226, 1, none⟩ = some (.slice A0_1 l0_1.length c0_1) := (blk_cell BK226.out 1).trans rfl
            have hcz31_2 : wc.cell? ⟨gb226, 2, none⟩ = some (.slice A0_2 l0_2.length c0_2) := (blk_cell BK226.out 2).trans rfl
            have hfz31_0 := blk_frozen BK226.out 0
            have hfz31_1 := blk_frozen BK226.out 1
            have hfz31_2 := blk_frozen BK226.out 2
            go_wp2_with (first | ((with_reducible refine gate_callee (f := 17) rfl ?_); refine goesL_ (some 40) rfl rfl Tryd.func17 (by kernel_rfl) rfl #[.agg #[.slice A0_0 l0_0.length c0_0, .slice A0_1 l0_1.length c0_1, .slice A0_2 l0_2.length c0_2]] rfl (by (try simp only [List.map_toArray, List.map_cons, List.map_nil]); first | done | rfl | (simp only [List.length_drop, List.length_take]; rfl)) ?_; (with_reducible refine (lack_Whole.calls _ _ l0_0 _ _ l0_1 _ _ l0_2 t243 t246 _ ?side1 ?side2 ?side3 ?side4 ?side5 ?side6 ?sideF A25.out).mono ?_); (case side1 => repeat (first | exact (Kd.C_below HR0_0.out HB.out) | (with_reducible refine Kd.C_alloc ?_ _) | (with_reducible refine Kd.C_drewN ?_ _) | (with_reducible refine Kd.C_drew ?_))); (case side2 => exact HC0_0.out); (case side3 => repeat (first | exact (Kd.C_below HR0_1.out HB.out) | (with_reducible refine Kd.C_alloc ?_ _) | (with_reducible refine Kd.C_drewN ?_ _) | (with_reducible refine Kd.C_drew ?_))); (case side4 => exact HC0_1.out); (case side5 => repeat (first | exact (Kd.C_below HR0_2.out HB.out) | (with_reducible refine Kd.C_alloc ?_ _) | (with_reducible refine Kd.C_drewN ?_ _) | (with_reducible refine Kd.C_drew ?_))); (case side6 => exact HC0_2.out); (case sideF => exact Fates.below HFA.out (by repeat (first | (with_reducible first | exact HB.out | apply below_alloc | apply pw_below_drewN | apply below_drew1 | refine below_set ?_ GE226.out) | exact HB.out))); rintro e w32 ⟨v244, rfl, ho0, hb⟩; refine ⟨_, rfl, ?_⟩; have n0_ := Aside0.mk (Kd.V_lower (Kd.V_mono (ok' := fun k_ => k_ ≠ gb226) ho0 (fun k_ hk_ => (Kd.freshB (g := gb226) (o := .cells #[.slice A0_0 l0_0.length c0_0, .slice A0_1 l0_1.length c0_1, .slice A0_2 l0_2.length c0_2] 26 (0, 0)) (by (with_reducible repeat (first | refine blk_drewN ?_ _ | refine blk_drew ?_ | refine blk_alloc ?_ _)); exact BK226.out) k_ hk_))) (below_size (by repeat (first | (with_reducible first | exact HB.out | apply below_alloc | apply pw_below_drewN | apply below_drew1 | refine below_set ?_ GE226.out) | exact HB.out)))); have n1_ := Aside0.mk (blk_below (g := gb226) (o := .cells #[.slice A0_0 l0_0.length c0_0, .slice A0_1 l0_1.length c0_1, .slice A0_2 l0_2.length c0_2] 26 (0, 0)) (by (with_reducible repeat (first | refine blk_drewN ?_ _ | refine blk_drew ?_ | refine blk_alloc ?_ _)); exact BK226.out) hb); have n2_ := Aside0.mk (below_step (by repeat (first | (with_reducible first | exact HB.out | apply below_alloc | apply pw_below_drewN | apply below_drew1 | refine below_set ?_ GE226.out) | exact HB.out)) hb); clear BK226; clear HB; have HO245 := n0_; have BK226 := n1_; have HB := n2_; clear n0_ n1_ n2_; (try clear hb); (try clear hb2); (try clear hk); (try clear hi); (try clear ho0); have hcz33_0 : w32.cell? ⟨gb226, 0, none⟩ = some (.slice A0_0 l0_0.length c0_0) := (blk_cell BK226.out 0).trans rfl; have hcz33_1 : w32.cell? ⟨gb226, 1, none⟩ = some (.slice A0_1 l0_1.length c0_1) := (blk_cell BK226.out 1).trans rfl; have hcz33_2 : w32.cell? ⟨gb226, 2, none⟩ = some (.slice A0_2 l0_2.length c0_2) := (blk_cell BK226.out 2).trans rfl; have hfz33_0 := blk_frozen BK226.out 0; have hfz33_1 := blk_frozen BK226.out 1; have hfz33_2 := blk_frozen BK226.out 2) | ((with_reducible refine gate_callee (f := 18) rfl ?_); refine goesL_ (some 45) rfl rfl Tryd.func18 (by kernel_rfl) rfl #[.agg #[.slice A0_0 l0_0.length c0_0, .slice A0_1 l0_1.length c0_1, .slice A0_2 l0_2.length c0_2]] rfl (by (try simp only [List.map_toArray, List.map_cons, List.map_nil]); first | done | rfl | (simp only [List.length_drop, List.length_take]; rfl)) ?_; (with_reducible refine (wishbookref10_Whole.calls kj3 _ _ l0_0 _ _ l0_1 _ _ l0_2 t247 t250 _ ?side1 ?side2 ?side3 ?side4 ?side5 ?side6 A26.out).mono ?_); (case side1 => repeat (first | exact (Kd.C_below HR0_0.out HB.out) | (with_reducible refine Kd.C_alloc ?_ _) | (with_reducible refine Kd.C_drewN ?_ _) | (with_reducible refine Kd.C_drew ?_))); (case side2 => exact HC0_0.out); (case side3 => repeat (first | exact (Kd.C_below HR0_1.out HB.out) | (with_reducible refine Kd.C_alloc ?_ _) | (with_reducible refine Kd.C_drewN ?_ _) | (with_reducible refine Kd.C_drew ?_))); (case side4 => exact HC0_1.out); (case side5 => repeat (first | exact (Kd.C_below HR0_2.out HB.out) | (with_reducible refine Kd.C_alloc ?_ _) | (with_reducible refine Kd.C_drewN ?_ _) | (with_reducible refine Kd.C_drew ?_))); (case side6 => exact HC0_2.out); rintro e w34 ⟨v248, rfl, ho0, hb⟩; refine ⟨_, rfl, ?_⟩; have n0_ := Aside0.mk (Kd.V_elder' (by (with_reducible repeat (first | apply Kd.V_alloc | apply Kd.V_drewN | apply Kd.V_drew)); exact HO245.out) (Kd.R_base ho0) hb); have n1_ := Aside0.mk (Kd.R_lower ho0 (below_size (by repeat (first | (with_reducible first | exact HB.out | apply below_alloc | apply pw_below_drewN | apply below_drew1 | refine below_set ?_ GE226.out) | exact HB.out)))); have n2_ := Aside0.mk (blk_below (g := gb226) (o := .cells #[.slice A0_0 l0_0.length c0_0, .slice A0_1 l0_1.length c0_1, .slice A0_2 l0_2.length c0_2] 26 (0, 0)) (by (with_reducible repeat (first | refine blk_drewN ?_ _ | refine blk_drew ?_ | refine blk_alloc ?_ _)); exact BK226.out) hb); have n3_ := Aside0.mk (below_step (by repeat (first | (with_reducible first | exact HB.out | apply below_alloc | apply pw_below_drewN | apply below_drew1 | refine below_set ?_ GE226.out) | exact HB.out)) hb); clear HO245; clear BK226; clear HB; have HO245 := n0_; have HO249 := n1_; have BK226 := n2_; have HB := n3_; clear n0_ n1_ n2_ n3_; (try clear hb); (try clear hb2); (try clear hk); (try clear hi); (try clear ho0); obtain ⟨Ao35, co35, eo35⟩ := Kd.V_slice HO245.out; subst eo35; obtain ⟨Ao36, co36, eo36⟩ := Kd.R_slice HO249.out; subst eo36) | ((with_reducible refine gate_callee (f := 16) rfl ?_); refine goesL_ (some 50) rfl rfl Tryd.func16 (by kernel_rfl) rfl #[.slice Ao35 t243.length co35, .slice Ao36 t247.length co36] rfl (by (try simp only [List.map_toArray, List.map_cons, List.map_nil]); first | done | rfl | (simp only [List.length_drop, List.length_take]; rfl)) ?_; (with_reducible refine (wishbookref00_Match.calls kj3 _ _ t243 _ _ t247 true _ ?side1 ?side2 ?side3 ?side4 A27.out).mono ?_); (case side1 => repeat (first | exact (Kd.V_reads' HO245.out).2.2 | (with_reducible refine Kd.C_alloc ?_ _) | (with_reducible refine Kd.C_drewN ?_ _) | (with_reducible refine Kd.C_drew ?_))); (case side2 => exact (Kd.V_reads' HO245.out).2.1); (case side3 => repeat (first | exact (Kd.R_reads' HO249.out).2.2 | (with_reducible refine Kd.C_alloc ?_ _) | (with_reducible refine Kd.C_drewN ?_ _) | (with_reducible refine Kd.C_drew ?_))); (case side4 => exact (Kd.R_reads' HO249.out).2.1); rintro e w' ⟨rfl, ⟨nd, rfl⟩⟩; refine ⟨_, rfl, ?_⟩) | (go_at_call 19; (with_reducible refine (wishbooklaw10_listed.calls  t252 _ ?sideF A30.out).mono ?_); (case sideF => exact Fates.below HFA.out (by repeat (first | (with_reducible first | exact HB.out | apply below_alloc | apply pw_below_drewN | apply below_drew1 | refine below_set ?_ GE226.out) | exact HB.out))); rintro e w37 ⟨rfl, hb⟩; have n0_ := Aside0.mk (Kd.V_below (by (with_reducible repeat (first | apply Kd.V_alloc | apply Kd.V_drewN | apply Kd.V_drew)); exact HO245.out) hb); have n1_ := Aside0.mk (Kd.R_below (by (with_reducible repeat (first | apply Kd.R_alloc | apply Kd.R_drewN | apply Kd.R_drew)); exact HO249.out) hb); have n2_ := Aside0.mk (blk_below (g := gb226) (o := .cells #[.slice A0_0 l0_0.length c0_0, .slice A0_1 l0_1.length c0_1, .slice A0_2 l0_2.length c0_2] 26 (0, 0)) (by (with_reducible repeat (first | refine blk_drewN ?_ _ | refine blk_drew ?_ | refine blk_alloc ?_ _)); exact BK226.out) hb); have n3_ := Aside0.mk (below_step (by repeat (first | (with_reducible first | exact HB.out | apply below_alloc | apply pw_below_drewN | apply below_drew1 | refine below_set ?_ GE226.out) | exact HB.out)) hb); clear HO245; clear HO249; clear BK226; clear HB; have HO245 := n0_; have HO249 := n1_; have BK226 := n2_; have HB := n3_; clear n0_ n1_ n2_ n3_; (try clear hb); (try clear hb2); (try clear hk); (try clear hi)))
            go_ret
            exact ⟨by first | rfl | (simp [errW_none, errW_some] <;> rfl) | (simp [*, errW_none, errW_some] <;> rfl), by repeat (first | (with_reducible first | exact HB.out | apply below_alloc | apply pw_below_drewN | apply below_drew1 | refine below_set ?_ GE226.out) | exact HB.out)⟩
          · rw [if_neg c29] at H
            have c29b0 : (t246 == t250) = false := beq_eq_false_iff_ne.mpr c29
            have c29b1 : (t246 != t250) = true := bne_iff_ne.mpr c29
            obtain rfl := Option.some.inj H
            have hcz38_0 : wc.cell? ⟨gb226, 0, none⟩ = some (.slice A0_0 l0_0.length c0_0) := (blk_cell BK226.out 0).trans rfl
            have hcz38_1 : wc.cell? ⟨gb226, 1, none⟩ = some (.slice A0_1 l0_1.length c0_1) := (blk_cell BK226.out 1).trans rfl
            have hcz38_2 : wc.cell? ⟨gb226, 2, none⟩ = some (.slice A0_2 l0_2.length c0_2) := (blk_cell BK226.out 2).trans rfl
            have hfz38_0 := blk_frozen BK226.out 0
            have hfz38_1 := blk_frozen BK226.out 1
            have hfz38_2 := blk_frozen BK226.out 2
            go_wp2_with (first | ((with_reducible refine gate_callee (f := 17) rfl ?_); refine goesL_ (some 40) rfl rfl Tryd.func17 (by kernel_rfl) rfl #[.agg #[.slice A0_0 l0_0.length c0_0, .slice A0_1 l0_1.length c0_1, .slice A0_2 l0_2.length c0_2]] rfl (by (try simp only [List.map_toArray, List.map_cons, List.map_nil]); first | done | rfl | (simp only [List.length_drop, List.length_take]; rfl)) ?_; (with_reducible refine (lack_Whole.calls _ _ l0_0 _ _ l0_1 _ _ l0_2 t243 t246 _ ?side1 ?side2 ?side3 ?side4 ?side5 ?side6 ?sideF A25.out).mono ?_); (case side1 => repeat (first | exact (Kd.C_below HR0_0.out HB.out) | (with_reducible refine Kd.C_alloc ?_ _) | (with_reducible refine Kd.C_drewN ?_ _) | (with_reducible refine Kd.C_drew ?_))); (case side2 => exact HC0_0.out); (case side3 => repeat (first | exact (Kd.C_below HR0_1.out HB.out) | (with_reducible refine Kd.C_alloc ?_ _) | (with_reducible refine Kd.C_drewN ?_ _) | (with_reducible refine Kd.C_drew ?_))); (case side4 => exact HC0_1.out); (case side5 => repeat (first | exact (Kd.C_below HR0_2.out HB.out) | (with_reducible refine Kd.C_alloc ?_ _) | (with_reducible refine Kd.C_drewN ?_ _) | (with_reducible refine Kd.C_drew ?_))); (case side6 => exact HC0_2.out); (case sideF => exact Fates.below HFA.out (by repeat (first | (with_reducible first | exact HB.out | apply below_alloc | apply pw_below_drewN | apply below_drew1 | refine below_set ?_ GE226.out) | exact HB.out))); rintro e w39 ⟨v244, rfl, ho0, hb⟩; refine ⟨_, rfl, ?_⟩; have n0_ := Aside0.mk (Kd.V_lower (Kd.V_mono (ok' := fun k_ => k_ ≠ gb226) ho0 (fun k_ hk_ => (Kd.freshB (g := gb226) (o := .cells #[.slice A0_0 l0_0.length c0_0, .slice A0_1 l0_1.length c0_1, .slice A0_2 l0_2.length c0_2] 26 (0, 0)) (by (with_reducible repeat (first | refine blk_drewN ?_ _ | refine blk_drew ?_ | refine blk_alloc ?_ _)); exact BK226.out) k_ hk_))) (below_size (by repeat (first | (with_reducible first | exact HB.out | apply below_alloc | apply pw_below_drewN | apply below_drew1 | refine below_set ?_ GE226.out) | exact HB.out)))); have n1_ := Aside0.mk (blk_below (g := gb226) (o := .cells #[.slice A0_0 l0_0.length c0_0, .slice A0_1 l0_1.length c0_1, .slice A0_2 l0_2.length c0_2] 26 (0, 0)) (by (with_reducible repeat (first | refine blk_drewN ?_ _ | refine blk_drew ?_ | refine blk_alloc ?_ _)); exact BK226.out) hb); have n2_ := Aside0.mk (below_step (by repeat (first | (with_reducible first | exact HB.out | apply below_alloc | apply pw_below_drewN | apply below_drew1 | refine below_set ?_ GE226.out) | exact HB.out)) hb); clear BK226; clear HB; have HO245 := n0_; have BK226 := n1_; have HB := n2_; clear n0_ n1_ n2_; (try clear hb); (try clear hb2); (try clear hk); (try clear hi); (try clear ho0); have hcz40_0 : w39.cell? ⟨gb226, 0, none⟩ = some (.slice A0_0 l0_0.length c0_0) := (blk_cell BK226.out 0).trans rfl; have hcz40_1 : w39.cell? ⟨gb226, 1, none⟩ = some (.slice A0_1 l0_1.length c0_1) := (blk_cell BK226.out 1).trans rfl; have hcz40_2 : w39.cell? ⟨gb226, 2, none⟩ = some (.slice A0_2 l0_2.length c0_2) := (blk_cell BK226.out 2).trans rfl; have hfz40_0 := blk_frozen BK226.out 0; have hfz40_1 := blk_frozen BK226.out 1; have hfz40_2 := blk_frozen BK226.out 2) | ((with_reducible refine gate_callee (f := 18) rfl ?_); refine goesL_ (some 45) rfl rfl Tryd.func18 (by kernel_rfl) rfl #[.agg #[.slice A0_0 l0_0.length c0_0, .slice A0_1 l0_1.length c0_1, .slice A0_2 l0_2.length c0_2]] rfl (by (try simp only [List.map_toArray, List.map_cons, List.map_nil]); first | done | rfl | (simp only [List.length_drop, List.length_take]; rfl)) ?_; (with_reducible refine (wishbookref10_Whole.calls kj3 _ _ l0_0 _ _ l0_1 _ _ l0_2 t247 t250 _ ?side1 ?side2 ?side3 ?side4 ?side5 ?side6 A26.out).mono ?_); (case side1 => repeat (first | exact (Kd.C_below HR0_0.out HB.out) | (with_reducible refine Kd.C_alloc ?_ _) | (with_reducible refine Kd.C_drewN ?_ _) | (with_reducible refine Kd.C_drew ?_))); (case side2 => exact HC0_0.out); (case side3 => repeat (first | exact (Kd.C_below HR0_1.out HB.out) | (with_reducible refine Kd.C_alloc ?_ _) | (with_reducible refine Kd.C_drewN ?_ _) | (with_reducible refine Kd.C_drew ?_))); (case side4 => exact HC0_1.out); (case side5 => repeat (first | exact (Kd.C_below HR0_2.out HB.out) | (with_reducible refine Kd.C_alloc ?_ _) | (with_reducible refine Kd.C_drewN ?_ _) | (with_reducible refine Kd.C_drew ?_))); (case side6 => exact HC0_2.out); rintro e w41 ⟨v248, rfl, ho0, hb⟩; refine ⟨_, rfl, ?_⟩; have n0_ := Aside0.mk (Kd.V_elder' (by (with_reducible repeat (first | apply Kd.V_alloc | apply Kd.V_drewN | apply Kd.V_drew)); exact HO245.out) (Kd.R_base ho0) hb); have n1_ := Aside0.mk (Kd.R_lower ho0 (below_size (by repeat (first | (with_reducible first | exact HB.out | apply below_alloc | apply pw_below_drewN | apply below_drew1 | refine below_set ?_ GE226.out) | exact HB.out)))); have n2_ := Aside0.mk (blk_below (g := gb226) (o := .cells #[.slice A0_0 l0_0.length c0_0, .slice A0_1 l0_1.length c0_1, .slice A0_2 l0_2.length c0_2] 26 (0, 0)) (by (with_reducible repeat (first | refine blk_drewN ?_ _ | refine blk_drew ?_ | refine blk_alloc ?_ _)); exact BK226.out) hb); have n3_ := Aside0.mk (below_step (by repeat (first | (with_reducible first | exact HB.out | apply below_alloc | apply pw_below_drewN | apply below_drew1 | refine below_set ?_ GE226.out) | exact HB.out)) hb); clear HO245; clear BK226; clear HB; have HO245 := n0_; have HO249 := n1_; have BK226 := n2_; have HB := n3_; clear n0_ n1_ n2_ n3_; (try clear hb); (try clear hb2); (try clear hk); (try clear hi); (try clear ho0); obtain ⟨Ao42, co42, eo42⟩ := Kd.V_slice HO245.out; subst eo42; obtain ⟨Ao43, co43, eo43⟩ := Kd.R_slice HO249.out; subst eo43) | ((with_reducible refine gate_callee (f := 16) rfl ?_); refine goesL_ (some 50) rfl rfl Tryd.func16 (by kernel_rfl) rfl #[.slice Ao42 t243.length co42, .slice Ao43 t247.length co43] rfl (by (try simp only [List.map_toArray, List.map_cons, List.map_nil]); first | done | rfl | (simp only [List.length_drop, List.length_take]; rfl)) ?_; (with_reducible refine (wishbookref00_Match.calls kj3 _ _ t243 _ _ t247 true _ ?side1 ?side2 ?side3 ?side4 A27.out).mono ?_); (case side1 => repeat (first | exact (Kd.V_reads' HO245.out).2.2 | (with_reducible refine Kd.C_alloc ?_ _) | (with_reducible refine Kd.C_drewN ?_ _) | (with_reducible refine Kd.C_drew ?_))); (case side2 => exact (Kd.V_reads' HO245.out).2.1); (case side3 => repeat (first | exact (Kd.R_reads' HO249.out).2.2 | (with_reducible refine Kd.C_alloc ?_ _) | (with_reducible refine Kd.C_drewN ?_ _) | (with_reducible refine Kd.C_drew ?_))); (case side4 => exact (Kd.R_reads' HO249.out).2.1); rintro e w' ⟨rfl, ⟨nd, rfl⟩⟩; refine ⟨_, rfl, ?_⟩))
            go_ret
            exact ⟨by first | rfl | (simp [errW_none, errW_some] <;> rfl) | (simp [*, errW_none, errW_some] <;> rfl), by repeat (first | (with_reducible first | exact HB.out | apply below_alloc | apply pw_below_drewN | apply below_drew1 | refine below_set ?_ GE226.out) | exact HB.out)⟩
        · replace c28 := Bool.eq_false_iff.mpr c28
          subst c28
          have H1 : (some false) = some r := by rw [if_neg (show ¬ (false = true) by decide)] at H; exact H
          clear H
          have H := H1
          clear H1
          obtain rfl := Option.some.inj H
          have hcz44_0 : wc.cell? ⟨gb226, 0, none⟩ = some (.slice A0_0 l0_0.length c0_0) := (blk_cell BK226.out 0).trans rfl
          have hcz44_1 : wc.cell? ⟨gb226, 1, none⟩ = some (.slice A0_1 l0_1.length c0_1) := (blk_cell BK226.out 1).trans rfl
          have hcz44_2 : wc.cell? ⟨gb226, 2, none⟩ = some (.slice A0_2 l0_2.length c0_2) := (blk_cell BK226.out 2).trans rfl
          have hfz44_0 := blk_frozen BK226.out 0
          have hfz44_1 := blk_frozen BK226.out 1
          have hfz44_2 := blk_frozen BK226.out 2
          go_wp2_with (first | ((with_reducible refine gate_callee (f := 17) rfl ?_); refine goesL_ (some 40) rfl rfl Tryd.func17 (by kernel_rfl) rfl #[.agg #[.slice A0_0 l0_0.length c0_0, .slice A0_1 l0_1.length c0_1, .slice A0_2 l0_2.length c0_2]] rfl (by (try simp only [List.map_toArray, List.map_cons, List.map_nil]); first | done | rfl | (simp only [List.length_drop, List.length_take]; rfl)) ?_; (with_reducible refine (lack_Whole.calls _ _ l0_0 _ _ l0_1 _ _ l0_2 t243 t246 _ ?side1 ?side2 ?side3 ?side4 ?side5 ?side6 ?sideF A25.out).mono ?_); (case side1 => repeat (first | exact (Kd.C_below HR0_0.out HB.out) | (with_reducible refine Kd.C_alloc ?_ _) | (with_reducible refine Kd.C_drewN ?_ _) | (with_reducible refine Kd.C_drew ?_))); (case side2 => exact HC0_0.out); (case side3 => repeat (first | exact (Kd.C_below HR0_1.out HB.out) | (with_reducible refine Kd.C_alloc ?_ _) | (with_reducible refine Kd.C_drewN ?_ _) | (with_reducible refine Kd.C_drew ?_))); (case side4 => exact HC0_1.out); (case side5 => repeat (first | exact (Kd.C_below HR0_2.out HB.out) | (with_reducible refine Kd.C_alloc ?_ _) | (with_reducible refine Kd.C_drewN ?_ _) | (with_reducible refine Kd.C_drew ?_))); (case side6 => exact HC0_2.out); (case sideF => exact Fates.below HFA.out (by repeat (first | (with_reducible first | exact HB.out | apply below_alloc | apply pw_below_drewN | apply below_drew1 | refine below_set ?_ GE226.out) | exact HB.out))); rintro e w45 ⟨v244, rfl, ho0, hb⟩; refine ⟨_, rfl, ?_⟩; have n0_ := Aside0.mk (Kd.V_lower (Kd.V_mono (ok' := fun k_ => k_ ≠ gb226) ho0 (fun k_ hk_ => (Kd.freshB (g := gb226) (o := .cells #[.slice A0_0 l0_0.length c0_0, .slice A0_1 l0_1.length c0_1, .slice A0_2 l0_2.length c0_2] 26 (0, 0)) (by (with_reducible repeat (first | refine blk_drewN ?_ _ | refine blk_drew ?_ | refine blk_alloc ?_ _)); exact BK226.out) k_ hk_))) (below_size (by repeat (first | (with_reducible first | exact HB.out | apply below_alloc | apply pw_below_drewN | apply below_drew1 | refine below_set ?_ GE226.out) | exact HB.out)))); have n1_ := Aside0.mk (blk_below (g := gb226) (o := .cells #[.slice A0_0 l0_0.length c0_0, .slice A0_1 l0_1.length c0_1, .slice A0_2 l0_2.length c0_2] 26 (0, 0)) (by (with_reducible repeat (first | refine blk_drewN ?_ _ | refine blk_drew ?_ | refine blk_alloc ?_ _)); exact BK226.out) hb); have n2_ := Aside0.mk (below_step (by repeat (first | (with_reducible first | exact HB.out | apply below_alloc | apply pw_below_drewN | apply below_drew1 | refine below_set ?_ GE226.out) | exact HB.out)) hb); clear BK226; clear HB; have HO245 := n0_; have BK226 := n1_; have HB := n2_; clear n0_ n1_ n2_; (try clear hb); (try clear hb2); (try clear hk); (try clear hi); (try clear ho0); have hcz46_0 : w45.cell? ⟨gb226, 0, none⟩ = some (.slice A0_0 l0_0.length c0_0) := (blk_cell BK226.out 0).trans rfl; have hcz46_1 : w45.cell? ⟨gb226, 1, none⟩ = some (.slice A0_1 l0_1.length c0_1) := (blk_cell BK226.out 1).trans rfl; have hcz46_2 : w45.cell? ⟨gb226, 2, none⟩ = some (.slice A0_2 l0_2.length c0_2) := (blk_cell BK226.out 2).trans rfl; have hfz46_0 := blk_frozen BK226.out 0; have hfz46_1 := blk_frozen BK226.out 1; have hfz46_2 := blk_frozen BK226.out 2) | ((with_reducible refine gate_callee (f := 18) rfl ?_); refine goesL_ (some 45) rfl rfl Tryd.func18 (by kernel_rfl) rfl #[.agg #[.slice A0_0 l0_0.length c0_0, .slice A0_1 l0_1.length c0_1, .slice A0_2 l0_2.length c0_2]] rfl (by (try simp only [List.map_toArray, List.map_cons, List.map_nil]); first | done | rfl | (simp only [List.length_drop, List.length_take]; rfl)) ?_; (with_reducible refine (wishbookref10_Whole.calls kj3 _ _ l0_0 _ _ l0_1 _ _ l0_2 t247 t250 _ ?side1 ?side2 ?side3 ?side4 ?side5 ?side6 A26.out).mono ?_); (case side1 => repeat (first | exact (Kd.C_below HR0_0.out HB.out) | (with_reducible refine Kd.C_alloc ?_ _) | (with_reducible refine Kd.C_drewN ?_ _) | (with_reducible refine Kd.C_drew ?_))); (case side2 => exact HC0_0.out); (case side3 => repeat (first | exact (Kd.C_below HR0_1.out HB.out) | (with_reducible refine Kd.C_alloc ?_ _) | (with_reducible refine Kd.C_drewN ?_ _) | (with_reducible refine Kd.C_drew ?_))); (case side4 => exact HC0_1.out); (case side5 => repeat (first | exact (Kd.C_below HR0_2.out HB.out) | (with_reducible refine Kd.C_alloc ?_ _) | (with_reducible refine Kd.C_drewN ?_ _) | (with_reducible refine Kd.C_drew ?_))); (case side6 => exact HC0_2.out); rintro e w47 ⟨v248, rfl, ho0, hb⟩; refine ⟨_, rfl, ?_⟩; have n0_ := Aside0.mk (Kd.V_elder' (by (with_reducible repeat (first | apply Kd.V_alloc | apply Kd.V_drewN | apply Kd.V_drew)); exact HO245.out) (Kd.R_base ho0) hb); have n1_ := Aside0.mk (Kd.R_lower ho0 (below_size (by repeat (first | (with_reducible first | exact HB.out | apply below_alloc | apply pw_below_drewN | apply below_drew1 | refine below_set ?_ GE226.out) | exact HB.out)))); have n2_ := Aside0.mk (blk_below (g := gb226) (o := .cells #[.slice A0_0 l0_0.length c0_0, .slice A0_1 l0_1.length c0_1, .slice A0_2 l0_2.length c0_2] 26 (0, 0)) (by (with_reducible repeat (first | refine blk_drewN ?_ _ | refine blk_drew ?_ | refine blk_alloc ?_ _)); exact BK226.out) hb); have n3_ := Aside0.mk (below_step (by repeat (first | (with_reducible first | exact HB.out | apply below_alloc | apply pw_below_drewN | apply below_drew1 | refine below_set ?_ GE226.out) | exact HB.out)) hb); clear HO245; clear BK226; clear HB; have HO245 := n0_; have HO249 := n1_; have BK226 := n2_; have HB := n3_; clear n0_ n1_ n2_ n3_; (try clear hb); (try clear hb2); (try clear hk); (try clear hi); (try clear ho0); obtain ⟨Ao48, co48, eo48⟩ := Kd.V_slice HO245.out; subst eo48; obtain ⟨Ao49, co49, eo49⟩ := Kd.R_slice HO249.out; subst eo49) | ((with_reducible refine gate_callee (f := 16) rfl ?_); refine goesL_ (some 50) rfl rfl Tryd.func16 (by kernel_rfl) rfl #[.slice Ao48 t243.length co48, .slice Ao49 t247.length co49] rfl (by (try simp only [List.map_toArray, List.map_cons, List.map_nil]); first | done | rfl | (simp only [List.length_drop, List.length_take]; rfl)) ?_; (with_reducible refine (wishbookref00_Match.calls kj3 _ _ t243 _ _ t247 false _ ?side1 ?side2 ?side3 ?side4 A27.out).mono ?_); (case side1 => repeat (first | exact (Kd.V_reads' HO245.out).2.2 | (with_reducible refine Kd.C_alloc ?_ _) | (with_reducible refine Kd.C_drewN ?_ _) | (with_reducible refine Kd.C_drew ?_))); (case side2 => exact (Kd.V_reads' HO245.out).2.1); (case side3 => repeat (first | exact (Kd.R_reads' HO249.out).2.2 | (with_reducible refine Kd.C_alloc ?_ _) | (with_reducible refine Kd.C_drewN ?_ _) | (with_reducible refine Kd.C_drew ?_))); (case side4 => exact (Kd.R_reads' HO249.out).2.1); rintro e w' ⟨rfl, ⟨nd, rfl⟩⟩; refine ⟨_, rfl, ?_⟩))
          go_ret
          exact ⟨by first | rfl | (simp [errW_none, errW_some] <;> rfl) | (simp [*, errW_none, errW_some] <;> rfl), by repeat (first | (with_reducible first | exact HB.out | apply below_alloc | apply pw_below_drewN | apply below_drew1 | refine below_set ?_ GE226.out) | exact HB.out)⟩
def wishbookref10_asked.f (l0_0 : List Int) (l0_1 : List (S47)) (l0_2 : List (S57)) (a1 : Bool) : Option (Int) := (wishbookref10_Check.f l0_0 l0_1 l0_2).bind fun t254 => (if t254 = 0 then (if a1 = true then (some 0) else (some 101)) else (some t254))
set_option maxHeartbeats 8000000 in
set_option maxRecDepth 100000 in
theorem wishbookref10_asked.calls (A0_0 : Option Addr) (c0_0 : Nat) (l0_0 : List Int) (A0_1 : Option Addr) (c0_1 : Nat) (l0_1 : List (S47)) (A0_2 : Option Addr) (c0_2 : Nat) (l0_2 : List (S57)) (a1 : Bool) (r : Int) (w : World) (hr0_0 : Kd.C (Kd.int .i64) w A0_0 l0_0.length l0_0) (hc0_0 : l0_0.length ≤ c0_0) (hr0_1 : Kd.C k47 w A0_1 l0_1.length l0_1) (hc0_1 : l0_1.length ≤ c0_1) (hr0_2 : Kd.C k57 w A0_2 l0_2.length l0_2) (hc0_2 : l0_2.length ≤ c0_2) (h : wishbookref10_asked.f l0_0 l0_1 l0_2 a1 = some r) :
    Calls Tryd.prog 52 #[.agg #[.slice A0_0 l0_0.length c0_0, .slice A0_1 l0_1.length c0_1, .slice A0_2 l0_2.length c0_2], .bool a1] w fun e w' => e = .returned (.int .i64 r) ∧ Below w.heap.size w w' := by
  have hu26 := Tryd.underlying26
  have HR0_0 := Aside0.mk hr0_0
  have HC0_0 := Aside0.mk hc0_0
  clear hr0_0 hc0_0
  have HR0_1 := Aside0.mk hr0_1
  have HC0_1 := Aside0.mk hc0_1
  clear hr0_1 hc0_1
  have HR0_2 := Aside0.mk hr0_2
  have HC0_2 := Aside0.mk hc0_2
  clear hr0_2 hc0_2
  have HB := Aside0.mk (Below.refl w.heap.size w)
  have H : ((wishbookref10_Check.f l0_0 l0_1 l0_2).bind fun t254 => (if t254 = 0 then (if a1 = true then (some 0) else (some 101)) else (some t254))) = some r := h
  clear h
  replace H := Option.bind_eq_some_iff.mp H
  obtain ⟨t254, A30, H⟩ := H
  replace H : (if t254 = 0 then (if a1 = true then (some 0) else (some 101)) else (some t254)) = some r := H
  have A3 := Aside0.mk A30
  clear A30
  by_cases c4 : t254 = 0
  · rw [if_pos c4] at H
    have c4b0 : (t254 == 0) = true := beq_iff_eq.mpr c4
    have c4b1 : (t254 != 0) = false := bne_eq_false_iff_eq.mpr c4
    clear c4
    by_cases c5 : a1 = true
    · subst c5
      have H1 : (some 0) = some r := by rw [if_pos rfl] at H; exact H
      clear H
      have H := H1
      clear H1
      obtain rfl := Option.some.inj H
      go_enter Tryd.func52, Tryd.ntmps52
      go_wp2_with (first | ((with_reducible refine gate_dst (N := 2) rfl ?_); refine box_event ?hg (N := 2) ?hd (cs := #[.slice A0_0 l0_0.length c0_0, .slice A0_1 l0_1.length c0_1, .slice A0_2 l0_2.length c0_2]) (t := 26) ?hr ?_; (case hd => rfl); (case hg => rfl); (case hr => first | (go_simp; done) | (go_simp; rfl)); intro gb253 hg w6 hbox hb; have n0_ := Aside0.mk (below_step (by repeat (first | (with_reducible first | exact HB.out | apply below_alloc | apply pw_below_drewN | apply below_drew1) | exact HB.out)) hb); have n1_ := Aside0.mk (hbox); have n2_ := Aside0.mk ((by rw [hg]; exact (below_size (by repeat (first | (with_reducible first | exact HB.out | apply below_alloc | apply pw_below_drewN | apply below_drew1) | exact HB.out))) : w.heap.size ≤ gb253)); have n3_ := Aside0.mk ((by rw [hg]; exact (below_size (by repeat (first | (with_reducible first | exact HB.out | apply below_alloc | apply pw_below_drewN | apply below_drew1) | exact HB.out))) : w.heap.size ≤ gb253)); clear HB; have HB := n0_; have BK253 := n1_; have GW253 := n2_; have GE253 := n3_; clear n0_ n1_ n2_ n3_; clear hb hbox hg; have hcz7_0 : w6.cell? ⟨gb253, 0, none⟩ = some (.slice A0_0 l0_0.length c0_0) := (blk_cell BK253.out 0).trans rfl; have hcz7_1 : w6.cell? ⟨gb253, 1, none⟩ = some (.slice A0_1 l0_1.length c0_1) := (blk_cell BK253.out 1).trans rfl; have hcz7_2 : w6.cell? ⟨gb253, 2, none⟩ = some (.slice A0_2 l0_2.length c0_2) := (blk_cell BK253.out 2).trans rfl; have hfz7_0 := blk_frozen BK253.out 0; have hfz7_1 := blk_frozen BK253.out 1; have hfz7_2 := blk_frozen BK253.out 2) | ((with_reducible refine gate_callee (f := 47) rfl ?_); refine goesL_ (some 7) rfl rfl Tryd.func47 (by kernel_rfl) rfl #[.agg #[.slice A0_0 l0_0.length c0_0, .slice A0_1 l0_1.length c0_1, .slice A0_2 l0_2.length c0_2]] rfl (by (try simp only [List.map_toArray, List.map_cons, List.map_nil]); first | done | rfl | (simp only [List.length_drop, List.length_take]; rfl)) ?_; (with_reducible refine (wishbookref10_Check.calls _ _ l0_0 _ _ l0_1 _ _ l0_2 t254 _ ?side1 ?side2 ?side3 ?side4 ?side5 ?side6 A3.out).mono ?_); (case side1 => repeat (first | exact (Kd.C_below HR0_0.out HB.out) | (with_reducible refine Kd.C_alloc ?_ _) | (with_reducible refine Kd.C_drewN ?_ _) | (with_reducible refine Kd.C_drew ?_))); (case side2 => exact HC0_0.out); (case side3 => repeat (first | exact (Kd.C_below HR0_1.out HB.out) | (with_reducible refine Kd.C_alloc ?_ _) | (with_reducible refine Kd.C_drewN ?_ _) | (with_reducible refine Kd.C_drew ?_))); (case side4 => exact HC0_1.out); (case side5 => repeat (first | exact (Kd.C_below HR0_2.out HB.out) | (with_reducible refine Kd.C_alloc ?_ _) | (with_reducible refine Kd.C_drewN ?_ _) | (with_reducible refine Kd.C_drew ?_))); (case side6 => exact HC0_2.out); rintro e w8 ⟨rfl, hb⟩; refine ⟨_, rfl, ?_⟩; have n0_ := Aside0.mk (blk_below (g := gb253) (o := .cells #[.slice A0_0 l0_0.length c0_0, .slice A0_1 l0_1.length c0_1, .slice A0_2 l0_2.length c0_2] 26 (0, 0)) (by (with_reducible repeat (first | refine blk_drewN ?_ _ | refine blk_drew ?_ | refine blk_alloc ?_ _)); exact BK253.out) hb); have n1_ := Aside0.mk (below_step (by repeat (first | (with_reducible first | exact HB.out | apply below_alloc | apply pw_below_drewN | apply below_drew1 | refine below_set ?_ GE253.out) | exact HB.out)) hb); clear BK253; clear HB; have BK253 := n0_; have HB := n1_; clear n0_ n1_; (try clear hb); (try clear hb2); (try clear hk); (try clear hi)))
      go_ret
      exact ⟨by first | rfl | (simp [errW_none, errW_some] <;> rfl) | (simp [*, errW_none, errW_some] <;> rfl), by repeat (first | (with_reducible first | exact HB.out | apply below_alloc | apply pw_below_drewN | apply below_drew1 | refine below_set ?_ GE253.out) | exact HB.out)⟩
    · replace c5 := Bool.eq_false_iff.mpr c5
      subst c5
      have H1 : (some 101) = some r := by rw [if_neg (show ¬ (false = true) by decide)] at H; exact H
      clear H
      have H := H1
      clear H1
      obtain rfl := Option.some.inj H
      go_enter Tryd.func52, Tryd.ntmps52
      go_wp2_with (first | ((with_reducible refine gate_dst (N := 2) rfl ?_); refine box_event ?hg (N := 2) ?hd (cs := #[.slice A0_0 l0_0.length c0_0, .slice A0_1 l0_1.length c0_1, .slice A0_2 l0_2.length c0_2]) (t := 26) ?hr ?_; (case hd => rfl); (case hg => rfl); (case hr => first | (go_simp; done) | (go_simp; rfl)); intro gb253 hg w9 hbox hb; have n0_ := Aside0.mk (below_step (by repeat (first | (with_reducible first | exact HB.out | apply below_alloc | apply pw_below_drewN | apply below_drew1) | exact HB.out)) hb); have n1_ := Aside0.mk (hbox); have n2_ := Aside0.mk ((by rw [hg]; exact (below_size (by repeat (first | (with_reducible first | exact HB.out | apply below_alloc | apply pw_below_drewN | apply below_drew1) | exact HB.out))) : w.heap.size ≤ gb253)); have n3_ := Aside0.mk ((by rw [hg]; exact (below_size (by repeat (first | (with_reducible first | exact HB.out | apply below_alloc | apply pw_below_drewN | apply below_drew1) | exact HB.out))) : w.heap.size ≤ gb253)); clear HB; have HB := n0_; have BK253 := n1_; have GW253 := n2_; have GE253 := n3_; clear n0_ n1_ n2_ n3_; clear hb hbox hg; have hcz10_0 : w9.cell? ⟨gb253, 0, none⟩ = some (.slice A0_0 l0_0.length c0_0) := (blk_cell BK253.out 0).trans rfl; have hcz10_1 : w9.cell? ⟨gb253, 1, none⟩ = some (.slice A0_1 l0_1.length c0_1) := (blk_cell BK253.out 1).trans rfl; have hcz10_2 : w9.cell? ⟨gb253, 2, none⟩ = some (.slice A0_2 l0_2.length c0_2) := (blk_cell BK253.out 2).trans rfl; have hfz10_0 := blk_frozen BK253.out 0; have hfz10_1 := blk_frozen BK253.out 1; have hfz10_2 := blk_frozen BK253.out 2) | ((with_reducible refine gate_callee (f := 47) rfl ?_); refine goesL_ (some 7) rfl rfl Tryd.func47 (by kernel_rfl) rfl #[.agg #[.slice A0_0 l0_0.length c0_0, .slice A0_1 l0_1.length c0_1, .slice A0_2 l0_2.length c0_2]] rfl (by (try simp only [List.map_toArray, List.map_cons, List.map_nil]); first | done | rfl | (simp only [List.length_drop, List.length_take]; rfl)) ?_; (with_reducible refine (wishbookref10_Check.calls _ _ l0_0 _ _ l0_1 _ _ l0_2 t254 _ ?side1 ?side2 ?side3 ?side4 ?side5 ?side6 A3.out).mono ?_); (case side1 => repeat (first | exact (Kd.C_below HR0_0.out HB.out) | (with_reducible refine Kd.C_alloc ?_ _) | (with_reducible refine Kd.C_drewN ?_ _) | (with_reducible refine Kd.C_drew ?_))); (case side2 => exact HC0_0.out); (case side3 => repeat (first | exact (Kd.C_below HR0_1.out HB.out) | (with_reducible refine Kd.C_alloc ?_ _) | (with_reducible refine Kd.C_drewN ?_ _) | (with_reducible refine Kd.C_drew ?_))); (case side4 => exact HC0_1.out); (case side5 => repeat (first | exact (Kd.C_below HR0_2.out HB.out) | (with_reducible refine Kd.C_alloc ?_ _) | (with_reducible refine Kd.C_drewN ?_ _) | (with_reducible refine Kd.C_drew ?_))); (case side6 => exact HC0_2.out); rintro e w11 ⟨rfl, hb⟩; refine ⟨_, rfl, ?_⟩; have n0_ := Aside0.mk (blk_below (g := gb253) (o := .cells #[.slice A0_0 l0_0.length c0_0, .slice A0_1 l0_1.length c0_1, .slice A0_2 l0_2.length c0_2] 26 (0, 0)) (by (with_reducible repeat (first | refine blk_drewN ?_ _ | refine blk_drew ?_ | refine blk_alloc ?_ _)); exact BK253.out) hb); have n1_ := Aside0.mk (below_step (by repeat (first | (with_reducible first | exact HB.out | apply below_alloc | apply pw_below_drewN | apply below_drew1 | refine below_set ?_ GE253.out) | exact HB.out)) hb); clear BK253; clear HB; have BK253 := n0_; have HB := n1_; clear n0_ n1_; (try clear hb); (try clear hb2); (try clear hk); (try clear hi)))
      go_ret
      exact ⟨by first | rfl | (simp [errW_none, errW_some] <;> rfl) | (simp [*, errW_none, errW_some] <;> rfl), by repeat (first | (with_reducible first | exact HB.out | apply below_alloc | apply pw_below_drewN | apply below_drew1 | refine below_set ?_ GE253.out) | exact HB.out)⟩
  · rw [if_neg c4] at H
    have c4b0 : (t254 == 0) = false := beq_eq_false_iff_ne.mpr c4
    have c4b1 : (t254 != 0) = true := bne_iff_ne.mpr c4
    obtain rfl := Option.some.inj H
    go_enter Tryd.func52, Tryd.ntmps52
    go_wp2_with (first | ((with_reducible refine gate_dst (N := 2) rfl ?_); refine box_event ?hg (N := 2) ?hd (cs := #[.slice A0_0 l0_0.length c0_0, .slice A0_1 l0_1.length c0_1, .slice A0_2 l0_2.length c0_2]) (t := 26) ?hr ?_; (case hd => rfl); (case hg => rfl); (case hr => first | (go_simp; done) | (go_simp; rfl)); intro gb253 hg w12 hbox hb; have n0_ := Aside0.mk (below_step (by repeat (first | (with_reducible first | exact HB.out | apply below_alloc | apply pw_below_drewN | apply below_drew1) | exact HB.out)) hb); have n1_ := Aside0.mk (hbox); have n2_ := Aside0.mk ((by rw [hg]; exact (below_size (by repeat (first | (with_reducible first | exact HB.out | apply below_alloc | apply pw_below_drewN | apply below_drew1) | exact HB.out))) : w.heap.size ≤ gb253)); have n3_ := Aside0.mk ((by rw [hg]; exact (below_size (by repeat (first | (with_reducible first | exact HB.out | apply below_alloc | apply pw_below_drewN | apply below_drew1) | exact HB.out))) : w.heap.size ≤ gb253)); clear HB; have HB := n0_; have BK253 := n1_; have GW253 := n2_; have GE253 := n3_; clear n0_ n1_ n2_ n3_; clear hb hbox hg; have hcz13_0 : w12.cell? ⟨gb253, 0, none⟩ = some (.slice A0_0 l0_0.length c0_0) := (blk_cell BK253.out 0).trans rfl; have hcz13_1 : w12.cell? ⟨gb253, 1, none⟩ = some (.slice A0_1 l0_1.length c0_1) := (blk_cell BK253.out 1).trans rfl; have hcz13_2 : w12.cell? ⟨gb253, 2, none⟩ = some (.slice A0_2 l0_2.length c0_2) := (blk_cell BK253.out 2).trans rfl; have hfz13_0 := blk_frozen BK253.out 0; have hfz13_1 := blk_frozen BK253.out 1; have hfz13_2 := blk_frozen BK253.out 2) | ((with_reducible refine gate_callee (f := 47) rfl ?_); refine goesL_ (some 7) rfl rfl Tryd.func47 (by kernel_rfl) rfl #[.agg #[.slice A0_0 l0_0.length c0_0, .slice A0_1 l0_1.length c0_1, .slice A0_2 l0_2.length c0_2]] rfl (by (try simp only [List.map_toArray, List.map_cons, List.map_nil]); first | done | rfl | (simp only [List.length_drop, List.length_take]; rfl)) ?_; (with_reducible refine (wishbookref10_Check.calls _ _ l0_0 _ _ l0_1 _ _ l0_2 t254 _ ?side1 ?side2 ?side3 ?side4 ?side5 ?side6 A3.out).mono ?_); (case side1 => repeat (first | exact (Kd.C_below HR0_0.out HB.out) | (with_reducible refine Kd.C_alloc ?_ _) | (with_reducible refine Kd.C_drewN ?_ _) | (with_reducible refine Kd.C_drew ?_))); (case side2 => exact HC0_0.out); (case side3 => repeat (first | exact (Kd.C_below HR0_1.out HB.out) | (with_reducible refine Kd.C_alloc ?_ _) | (with_reducible refine Kd.C_drewN ?_ _) | (with_reducible refine Kd.C_drew ?_))); (case side4 => exact HC0_1.out); (case side5 => repeat (first | exact (Kd.C_below HR0_2.out HB.out) | (with_reducible refine Kd.C_alloc ?_ _) | (with_reducible refine Kd.C_drewN ?_ _) | (with_reducible refine Kd.C_drew ?_))); (case side6 => exact HC0_2.out); rintro e w14 ⟨rfl, hb⟩; refine ⟨_, rfl, ?_⟩; have n0_ := Aside0.mk (blk_below (g := gb253) (o := .cells #[.slice A0_0 l0_0.length c0_0, .slice A0_1 l0_1.length c0_1, .slice A0_2 l0_2.length c0_2] 26 (0, 0)) (by (with_reducible repeat (first | refine blk_drewN ?_ _ | refine blk_drew ?_ | refine blk_alloc ?_ _)); exact BK253.out) hb); have n1_ := Aside0.mk (below_step (by repeat (first | (with_reducible first | exact HB.out | apply below_alloc | apply pw_below_drewN | apply below_drew1 | refine below_set ?_ GE253.out) | exact HB.out)) hb); clear BK253; clear HB; have BK253 := n0_; have HB := n1_; clear n0_ n1_; (try clear hb); (try clear hb2); (try clear hk); (try clear hi)))
    go_ret
    exact ⟨by first | rfl | (simp [errW_none, errW_some] <;> rfl) | (simp [*, errW_none, errW_some] <;> rfl), by repeat (first | (with_reducible first | exact HB.out | apply below_alloc | apply pw_below_drewN | apply below_drew1 | refine below_set ?_ GE253.out) | exact HB.out)⟩
def wishbookref10_isLine.f (l0_0 : List Int) (l0_1 : List (S47)) (l0_2 : List (S57)) (a1 : Int) : Option (Bool) := (wishbookref00_Tween.f a1 0 (wrap64 ((l0_1.length : Int) - 1))).bind fun t256 => (some t256)
set_option maxHeartbeats 8000000 in
set_option maxRecDepth 100000 in
theorem wishbookref10_isLine.calls (A0_0 : Option Addr) (c0_0 : Nat) (l0_0 : List Int) (A0_1 : Option Addr) (c0_1 : Nat) (l0_1 : List (S47)) (A0_2 : Option Addr) (c0_2 : Nat) (l0_2 : List (S57)) (a1 : Int) (r : Bool) (w : World) (hr0_0 : Kd.C (Kd.int .i64) w A0_0 l0_0.length l0_0) (hc0_0 : l0_0.length ≤ c0_0) (hr0_1 : Kd.C k47 w A0_1 l0_1.length l0_1) (hc0_1 : l0_1.length ≤ c0_1) (hr0_2 : Kd.C k57 w A0_2 l0_2.length l0_2) (hc0_2 : l0_2.length ≤ c0_2) (h : wishbookref10_isLine.f l0_0 l0_1 l0_2 a1 = some r) :
    Calls Tryd.prog 53 #[.agg #[.slice A0_0 l0_0.length c0_0, .slice A0_1 l0_1.length c0_1, .slice A0_2 l0_2.length c0_2], .int .i64 a1] w fun e w' => e = .returned (.bool r) ∧ Below w.heap.size w w' := by
  have hu26 := Tryd.underlying26
  have HR0_0 := Aside0.mk hr0_0
  have HC0_0 := Aside0.mk hc0_0
  clear hr0_0 hc0_0
  have HR0_1 := Aside0.mk hr0_1
  have HC0_1 := Aside0.mk hc0_1
  clear hr0_1 hc0_1
  have HR0_2 := Aside0.mk hr0_2
  have HC0_2 := Aside0.mk hc0_2
  clear hr0_2 hc0_2
  have HB := Aside0.mk (Below.refl w.heap.size w)
  have H : ((wishbookref00_Tween.f a1 0 (wrap64 ((l0_1.length : Int) - 1))).bind fun t256 => (some t256)) = some r := h
  clear h
  replace H := Option.bind_eq_some_iff.mp H
  obtain ⟨t256, A30, H⟩ := H
  replace H : (some t256) = some r := H
  have A3 := Aside0.mk A30
  clear A30
  obtain rfl := Option.some.inj H
  go_enter Tryd.func53, Tryd.ntmps53
  go_wp2_with (first | ((with_reducible refine gate_dst (N := 2) rfl ?_); refine box_event ?hg (N := 2) ?hd (cs := #[.slice A0_0 l0_0.length c0_0, .slice A0_1 l0_1.length c0_1, .slice A0_2 l0_2.length c0_2]) (t := 26) ?hr ?_; (case hd => rfl); (case hg => rfl); (case hr => first | (go_simp; done) | (go_simp; rfl)); intro gb255 hg w4 hbox hb; have n0_ := Aside0.mk (below_step (by repeat (first | (with_reducible first | exact HB.out | apply below_alloc | apply pw_below_drewN | apply below_drew1) | exact HB.out)) hb); have n1_ := Aside0.mk (hbox); have n2_ := Aside0.mk ((by rw [hg]; exact (below_size (by repeat (first | (with_reducible first | exact HB.out | apply below_alloc | apply pw_below_drewN | apply below_drew1) | exact HB.out))) : w.heap.size ≤ gb255)); have n3_ := Aside0.mk ((by rw [hg]; exact (below_size (by repeat (first | (with_reducible first | exact HB.out | apply below_alloc | apply pw_below_drewN | apply below_drew1) | exact HB.out))) : w.heap.size ≤ gb255)); clear HB; have HB := n0_; have BK255 := n1_; have GW255 := n2_; have GE255 := n3_; clear n0_ n1_ n2_ n3_; clear hb hbox hg; have hcz5_0 : w4.cell? ⟨gb255, 0, none⟩ = some (.slice A0_0 l0_0.length c0_0) := (blk_cell BK255.out 0).trans rfl; have hcz5_1 : w4.cell? ⟨gb255, 1, none⟩ = some (.slice A0_1 l0_1.length c0_1) := (blk_cell BK255.out 1).trans rfl; have hcz5_2 : w4.cell? ⟨gb255, 2, none⟩ = some (.slice A0_2 l0_2.length c0_2) := (blk_cell BK255.out 2).trans rfl; have hfz5_0 := blk_frozen BK255.out 0; have hfz5_1 := blk_frozen BK255.out 1; have hfz5_2 := blk_frozen BK255.out 2) | ((with_reducible refine gate_callee (f := 34) rfl ?_); refine goesL_ (some 10) rfl rfl Tryd.func34 (by kernel_rfl) rfl #[.int .i64 a1, .int .i64 0, .int .i64 (wrap64 ((l0_1.length : Int) - 1))] rfl (by (try simp only [List.map_toArray, List.map_cons, List.map_nil]); first | done | rfl | (simp only [List.length_drop, List.length_take]; rfl)) ?_; (with_reducible refine (wishbookref00_Tween.calls a1 0 (wrap64 ((l0_1.length : Int) - 1)) t256 _ A3.out).mono ?_); rintro e w' ⟨rfl, ⟨nd, rfl⟩⟩; refine ⟨_, rfl, ?_⟩))
  go_ret
  exact ⟨by first | rfl | (simp [errW_none, errW_some] <;> rfl) | (simp [*, errW_none, errW_some] <;> rfl), by repeat (first | (with_reducible first | exact HB.out | apply below_alloc | apply pw_below_drewN | apply below_drew1 | refine below_set ?_ GE255.out) | exact HB.out)⟩
def wishbookref00_Has.f (a0_0 : Int) (a0_1 : Int) (a1 : Int) : Option (Bool) := (wishbookref00_Tween.f a1 a0_0 a0_1).bind fun t258 => (some t258)
set_option maxHeartbeats 8000000 in
set_option maxRecDepth 100000 in
theorem wishbookref00_Has.calls (a0_0 : Int) (a0_1 : Int) (a1 : Int) (r : Bool) (w : World) (h : wishbookref00_Has.f a0_0 a0_1 a1 = some r) :
    Calls Tryd.prog 73 #[.agg #[.int .i64 a0_0, .int .i64 a0_1], .int .i64 a1] w fun e w' => e = .returned (.bool r) ∧ Below w.heap.size w w' := by
  have hu55 := Tryd.underlying55
  have HB := Aside0.mk (Below.refl w.heap.size w)
  have H : ((wishbookref00_Tween.f a1 a0_0 a0_1).bind fun t258 => (some t258)) = some r := h
  clear h
  replace H := Option.bind_eq_some_iff.mp H
  obtain ⟨t258, A30, H⟩ := H
  replace H : (some t258) = some r := H
  have A3 := Aside0.mk A30
  clear A30
  obtain rfl := Option.some.inj H
  go_enter Tryd.func73, Tryd.ntmps73
  go_wp2_with (first | ((with_reducible refine gate_dst (N := 2) rfl ?_); refine box_event ?hg (N := 2) ?hd (cs := #[.int .i64 a0_0, .int .i64 a0_1]) (t := 55) ?hr ?_; (case hd => rfl); (case hg => rfl); (case hr => first | (go_simp; done) | (go_simp; rfl)); intro gb257 hg w4 hbox hb; have n0_ := Aside0.mk (below_step (by repeat (first | (with_reducible first | exact HB.out | apply below_alloc | apply pw_below_drewN | apply below_drew1) | exact HB.out)) hb); have n1_ := Aside0.mk (hbox); have n2_ := Aside0.mk ((by rw [hg]; exact (below_size (by repeat (first | (with_reducible first | exact HB.out | apply below_alloc | apply pw_below_drewN | apply below_drew1) | exact HB.out))) : w.heap.size ≤ gb257)); have n3_ := Aside0.mk ((by rw [hg]; exact (below_size (by repeat (first | (with_reducible first | exact HB.out | apply below_alloc | apply pw_below_drewN | apply below_drew1) | exact HB.out))) : w.heap.size ≤ gb257)); clear HB; have HB := n0_; have BK257 := n1_; have GW257 := n2_; have GE257 := n3_; clear n0_ n1_ n2_ n3_; clear hb hbox hg; have hcz5_0 : w4.cell? ⟨gb257, 0, none⟩ = some (.int .i64 a0_0) := (blk_cell BK257.out 0).trans rfl; have hcz5_1 : w4.cell? ⟨gb257, 1, none⟩ = some (.int .i64 a0_1) := (blk_cell BK257.out 1).trans rfl; have hfz5_0 := blk_frozen BK257.out 0; have hfz5_1 := blk_frozen BK257.out 1) | ((with_reducible refine gate_callee (f := 34) rfl ?_); refine goesL_ (some 10) rfl rfl Tryd.func34 (by kernel_rfl) rfl #[.int .i64 a1, .int .i64 a0_0, .int .i64 a0_1] rfl (by (try simp only [List.map_toArray, List.map_cons, List.map_nil]); first | done | rfl | (simp only [List.length_drop, List.length_take]; rfl)) ?_; (with_reducible refine (wishbookref00_Tween.calls a1 a0_0 a0_1 t258 _ A3.out).mono ?_); rintro e w' ⟨rfl, ⟨nd, rfl⟩⟩; refine ⟨_, rfl, ?_⟩))
  go_ret
  exact ⟨by first | rfl | (simp [errW_none, errW_some] <;> rfl) | (simp [*, errW_none, errW_some] <;> rfl), by repeat (first | (with_reducible first | exact HB.out | apply below_alloc | apply pw_below_drewN | apply below_drew1 | refine below_set ?_ GE257.out) | exact HB.out)⟩
end Go.Proofs.YtegpepnmnlockaaDoor.PL
namespace Go.Proofs.YtegpepnmnlockaaDoor.PL
open Go.RowKit Go.Proofs.YtegpepnmnlockaaDoorW.PrintWords Go.Proofs.YtegpepnmnlockaaDoorW.PrintLast Go.Proofs.YtegpepnmnlockaaDoorW.PrintMore
set_option linter.unusedVariables false
set_option linter.unusedSimpArgs false
section
variable (l0 : List Int) (l1 : List S47) (l2 : List S57) (sh : List S49)
theorem Missing_l0 (hlen : sh.length = l1.length) (hl : l1.length ≤ 10) (hs : ∀ s ∈ sh, OkShare s) (hg : ∀ i : Nat, i < l1.length → 0 ≤ (rd_T47 l1 i).f1 ∧ (rd_T47 l1 i).f1 ≤ (l0.length : Int) - 1) : ∀ (d i k : Nat), i + d = sh.length → d + 1 ≤ k →
    wishbookref10_Missing.l0 k sh (missRow l1 sh S49.f2 l0.length i) (missRow l1 sh S49.f3 l0.length i) i l0 l1 l2 = some (missRow l1 sh S49.f2 l0.length sh.length, missRow l1 sh S49.f3 l0.length sh.length, 0)
  | 0, i, k + 1, hi, hk => by
    unfold wishbookref10_Missing.l0
    rw [if_neg (by omega), show i = sh.length by omega]
  | d + 1, i, k + 1, hi, hk => by
    have ih := Missing_l0 hlen hl hs hg d (i + 1) k (by omega) (by omega)
    have g := hg i (by omega)
    have b2 := fun j (h : j < sh.length) => (rdmem49 (P := OkShare) hs h)
    have e2 := rd_bds (missRow_bd l1 sh S49.f2 l0.length (fun j h => by have := b2 j h; unfold OkShare at this; omega) i (by omega)) (by omega) (rd_T47 l1 i).f1
    have e3 := rd_bds (missRow_bd l1 sh S49.f3 l0.length (fun j h => by have := b2 j h; unfold OkShare at this; omega) i (by omega)) (by omega) (rd_T47 l1 i).f1
    have o := b2 i (by omega)
    unfold OkShare at o
    unfold wishbookref10_Missing.l0
    rw [if_pos (by omega), if_pos (by omega), if_pos (by omega), if_pos g.1, if_pos (by rw [missRow_len]; omega), if_pos (by rw [missRow_len]; omega), wrap_succ (by omega), wrap_id (by omega) (by omega), wrap_id (by omega) (by omega)]
    rw [missRow, missRow] at ih
    exact ih
theorem Missing_f (hf : Few l0 l1 l2) (k : Nat) (hk : l0.length + 2 * l1.length + 2 * l2.length + 40 ≤ k) : wishbookref10_Missing.f k l0 l1 l2 = lack_Missing.f l0 l1 l2 := by
  unfold wishbookref10_Missing.f lack_Missing.f
  rw [if_pos hf, RCheck_f l0 l1 l2 hf, Option.bind_some]
  cases hb : okB l0 l1 l2 with
  | false => rw [if_neg (show ¬ (false = true) by decide), if_neg (show ¬ ((100 : Int) = 0) by decide), if_neg (show ¬ (false = true) by decide)]
  | true =>
    have f := okB_facts hb
    have h2 := (servF_len l1 l2 f.2.1).2
    rw [if_pos rfl, if_pos rfl, if_pos rfl]
    have hv : wishbookref10_served.f l0 l1 l2 = some ((servF l0 l1 l2).2, (servF l0 l1 l2).1.take l0.length) := by
      unfold wishbookref10_served.f
      rw [if_pos hf, hb, if_pos rfl]
    rw [hv, Option.bind_some, if_pos (by omega), if_pos (by rw [Int.toNat_natCast]; omega), Int.toNat_natCast]
    have h := Missing_l0 l0 l1 l2 (servF l0 l1 l2).2 h2 f.2.2.2.1 (servF_ok hb).2 (fun i hi => (okB_line hb hi).2.1) (servF l0 l1 l2).2.length 0 k (by omega) (by omega)
    rw [h2] at h
    exact h
theorem Whole_l1 (hlen : sh.length = l1.length) (hl : l1.length ≤ 10) (hs : ∀ s ∈ sh, OkShare s) (out : List Int) (o : Nat) : ∀ (d i k : Nat), i + d = sh.length → d + 1 ≤ k →
    wishbookref10_Whole.l1 k sh out o (ordIn l1 o i) (!ordBad l1 sh o i) i l0 l1 l2 = (if ordIn l1 o sh.length = true then (if (!ordBad l1 sh o sh.length) = true then (if out.length < 17592186044416 then (wishbookref10_Whole.l0 (k - (d + 1)) sh (out ++ [(o : Int)]) (wrap64 ((o : Int) + 1)) l0 l1 l2) else (none)) else (wishbookref10_Whole.l0 (k - (d + 1)) sh out (wrap64 ((o : Int) + 1)) l0 l1 l2)) else (wishbookref10_Whole.l0 (k - (d + 1)) sh out (wrap64 ((o : Int) + 1)) l0 l1 l2))
  | 0, i, k + 1, hi, hk => by
    unfold wishbookref10_Whole.l1
    rw [if_neg (by omega), show i = sh.length by omega]
    rfl
  | d + 1, i, k + 1, hi, hk => by
    have ih := Whole_l1 hlen hl hs out o d (i + 1) k (by omega) (by omega)
    rw [show k - (d + 1) = k + 1 - (d + 1 + 1) by omega] at ih
    have b2 := rdmem49 (P := OkShare) hs (show i < sh.length by omega)
    unfold OkShare at b2
    rw [ordIn_succ, ordBad_succ] at ih
    unfold wishbookref10_Whole.l1
    rw [if_pos (by omega), if_pos (by omega), if_pos (by omega), wrap_succ (by omega), ← ih]
    by_cases c : (rd_T47 l1 i).f0 = (o : Int)
    · rw [if_pos c, beq_iff_eq.2 c, Bool.or_true, Bool.true_and]
      cases hx : ordBad l1 sh o i with
      | true => rfl
      | false =>
        rw [Bool.not_false, if_pos rfl, Bool.false_or]
        by_cases c2 : (rd_T49 sh i).f2 = 0
        · rw [if_pos c2]
          congr 1
          by_cases c3 : (rd_T49 sh i).f3 = 0
          · rw [c2, c3]; rfl
          · rw [beq_eq_false_iff_ne.2 c3, decide_eq_true (by omega)]; rfl
        · rw [if_neg c2, decide_eq_true (by omega)]
          rfl
    · rw [if_neg c, beq_eq_false_iff_ne.2 c, Bool.or_false, Bool.false_and, Bool.or_false]
theorem Whole_l0 (hlen : sh.length = l1.length) (hl : l1.length ≤ 10) (hs : ∀ s ∈ sh, OkShare s) : ∀ (e o k : Nat), o + e = 10 → 20 * e + 20 ≤ k →
    wishbookref10_Whole.l0 k sh (wholeF l1 sh o) o l0 l1 l2 = some (wholeF l1 sh 10, 0)
  | 0, o, k + 1, hi, hk => by
    unfold wishbookref10_Whole.l0
    rw [if_neg (by omega), show o = 10 by omega]
  | e + 1, o, k + 1, hi, hk => by
    have ih := Whole_l0 hlen hl hs e (o + 1) (k - (sh.length + 1)) (by omega) (by omega)
    unfold wishbookref10_Whole.l0
    rw [if_pos (by omega)]
    have h := Whole_l1 l0 l1 l2 sh hlen hl hs (wholeF l1 sh o) o sh.length 0 k (by omega) (by omega)
    refine Eq.trans h ?_
    have hw := wholeF_len l1 sh o
    rw [wrap_succ (by omega), hlen]
    rw [hlen] at ih
    cases c1 : ordIn l1 o l1.length with
    | false =>
      have e : wholeF l1 sh (o + 1) = wholeF l1 sh o := by rw [wholeF, c1]; simp
      rw [e] at ih
      exact ih
    | true =>
      cases c2 : ordBad l1 sh o l1.length with
      | true =>
        have e : wholeF l1 sh (o + 1) = wholeF l1 sh o := by rw [wholeF, c1, c2]; simp
        rw [e] at ih
        exact ih
      | false =>
        have e : wholeF l1 sh (o + 1) = wholeF l1 sh o ++ [(o : Int)] := by rw [wholeF, c1, c2]; simp
        rw [e] at ih
        rw [if_pos rfl, if_pos (show (!false) = true from rfl), if_pos (by omega)]
        exact ih
theorem Whole_f (hf : Few l0 l1 l2) (k : Nat) (hk : l0.length + 2 * l1.length + 2 * l2.length + 240 ≤ k) : wishbookref10_Whole.f k l0 l1 l2 = lack_Whole.f l0 l1 l2 := by
  unfold wishbookref10_Whole.f lack_Whole.f
  rw [if_pos hf, RCheck_f l0 l1 l2 hf, Option.bind_some]
  cases hb : okB l0 l1 l2 with
  | false => rw [if_neg (show ¬ (false = true) by decide), if_neg (show ¬ ((100 : Int) = 0) by decide), if_neg (show ¬ (false = true) by decide)]
  | true =>
    have f := okB_facts hb
    have h2 := (servF_len l1 l2 f.2.1).2
    rw [if_pos rfl, if_pos rfl, if_pos rfl]
    have hv : wishbookref10_served.f l0 l1 l2 = some ((servF l0 l1 l2).2, (servF l0 l1 l2).1.take l0.length) := by
      unfold wishbookref10_served.f
      rw [if_pos hf, hb, if_pos rfl]
    rw [hv, Option.bind_some]
    exact Whole_l0 l0 l1 l2 (servF l0 l1 l2).2 h2 f.2.2.2.1 (servF_ok hb).2 10 0 k (by omega) (by omega)
theorem missing_ends (hf : Few l0 l1 l2) : ∃ a b e, lack_Missing.f l0 l1 l2 = some (a, b, e) ∧ a.length ≤ l0.length ∧ b.length ≤ l0.length := by
  unfold lack_Missing.f
  rw [if_pos hf]
  cases okB l0 l1 l2 with
  | false => exact ⟨_, _, _, rfl, Nat.zero_le _, Nat.zero_le _⟩
  | true => exact ⟨_, _, _, rfl, by rw [missRow_len]; exact Nat.le_refl _, by rw [missRow_len]; exact Nat.le_refl _⟩
theorem whole_ends (hf : Few l0 l1 l2) : ∃ a e, lack_Whole.f l0 l1 l2 = some (a, e) ∧ a.length ≤ 10 := by
  unfold lack_Whole.f
  rw [if_pos hf]
  cases okB l0 l1 l2 with
  | false => exact ⟨_, _, rfl, Nat.zero_le _⟩
  | true => exact ⟨_, _, rfl, wholeF_len _ _ _⟩
/-- LackWholes is true of all lists that a machine holds. -/
theorem LackWholes_pure (hf : Few l0 l1 l2) : ∃ k, wishbooklaw10_LackWholes.f k l0 l1 l2 = some true := by
  refine ⟨l0.length + 2 * l1.length + 2 * l2.length + 300, ?_⟩
  generalize hk : l0.length + 2 * l1.length + 2 * l2.length + 300 = k
  obtain ⟨a, b, e, hm, ha, hb⟩ := missing_ends l0 l1 l2 hf
  obtain ⟨c, g, hw, hc⟩ := whole_ends l0 l1 l2 hf
  have hfa := hf.1
  obtain ⟨k, rfl⟩ : ∃ j, k = j + 1 := ⟨k - 1, by omega⟩
  have hm2 := (Missing_f l0 l1 l2 hf (k + 1) (by omega)).trans hm
  have hw2 := (Whole_f l0 l1 l2 hf k (by omega)).trans hw
  unfold wishbooklaw10_LackWholes.f
  simp only [hm, hm2, Option.bind_some]
  rw [Match_f a (by omega) (k + 1) (by omega), Option.bind_some, if_pos rfl, Match_f b (by omega) (k + 1) (by omega), Option.bind_some, if_pos rfl, bne_self_eq_false]
  rw [wishbooklaw10_LackWholes.j0, if_neg (by decide)]
  simp only [hw, hw2, Option.bind_some]
  rw [Match_f c (by omega) k (by omega), Option.bind_some, if_pos rfl, if_pos trivial]
  rfl
end
end Go.Proofs.YtegpepnmnlockaaDoor.PL
namespace Go
variable {H : Type} {enc : TypeId × Value → H}
/-- The frame of a row whose contract is told the world's shape and one condition more. -/
theorem returnsInHanded_of_change_and_shaped {a : Assume} {C : Checked} {os : Os} {f : FuncId} {fn : Func} {s : ChangeSpec} {conds : List PathCond} {apart fresh handsOn again : Bool} {X : World → Array Value → Prop}
    (hX : ∀ (w w' : World) (args : Array Value), w.heap = w'.heap → X w args → X w' args)
    (own : ownKnob C.prog.godebug = none) (started : os.Started) (noInit : C.prog.inits.idxOf? f = none) (hfn : C.prog.funcs[f]? = some fn)
    (witness : ∃ (w : World) (tape : Tape) (i : Input), w.os = os ∧ (w.forCall tape i).Shaped C.prog ∧ i.vars = [] ∧ Input.okWide C.prog (w.forCall tape i) .any w.heap.size f i ∧
      ((s.pre enc C.prog fn conds apart (w.forCall tape i).memory i.args ∧ X (w.forCall tape i).memory i.args) ∧ sizedMet enc C.prog fn (OpenSpec.ofChange s) apart (w.forCall tape i).memory i.args) ∧ a.holds C.prog (lone (Frame.enter C.prog f i.args .normal) [] (w.forCall tape i)))
    (contract : ∀ (W : World) (base : Nat) (args : Array Value) (ds gs : List (DataW H)) (before : List MemPlace),
      (∀ (j : Nat) t v, fn.params[j]? = some t → args[j]? = some v → Value.okWide C.prog W .any base t v) →
      DataW.Whole enc C.prog fn.params.toList s.vars apart W args.toList ds gs before →
      (DataW.weightsEach C.prog (fn.params.toList ++ s.plain.varTypes C.prog) (ds ++ gs)).all (· ≤ reachBytes) = true → W.ShapedOpen C.prog → X W args →
      Calls C.prog f args W fun e W' => ∃ v, e = .returned v ∧ s.post enc C.prog fn apart fresh handsOn again W args v W') :
    ReturnsInHanded a C os f .any (fun w args => (s.pre enc C.prog fn conds apart w args ∧ X w args) ∧ sizedMet enc C.prog fn (OpenSpec.ofChange s) apart w args) (s.post enc C.prog fn apart fresh handsOn again) := by
  refine returnsInHanded_of_calls own started noInit witness ?_
  intro w tape i _ hsh _ hok hpre _
  obtain ⟨_, _, _, fn', hfn', _, _, _, _, hval⟩ := hok
  obtain rfl := Option.some.inj (hfn'.symm.trans hfn)
  obtain ⟨⟨⟨ds, gs, before, hw, hc⟩, hx⟩, hz⟩ := hpre
  refine (contract (w.forCall tape i) w.heap.size i.args ds gs before hval (DataW.Whole.of_heap (w' := w.forCall tape i) (by rfl) hw) (hz.weights hw) hsh (hX _ _ _ (by rfl) hx)).mono fun e W' ⟨v, he, hp⟩ => ?_
  subst he
  exact ChangeSpec.post_blind hp
end Go
namespace Go.Proofs.YtegpepnmnlockaaDoor.PL
open Go.RowKit Go.ChangeShapes Go.WideShapes Go.Deep Go.Proofs.YtegpepnmnlockaaDoorW.PrintWords Go.Proofs.YtegpepnmnlockaaDoorW.PrintLast Go.Proofs.YtegpepnmnlockaaDoorW.PrintMore
set_option linter.unusedVariables false
set_option linter.unusedSimpArgs false
section
variable {H : Type} {enc : TypeId × Value → H} {P : Program} {α β : Type}
/-- The data of a type are of a kind. -/
def Rds (enc : TypeId × Value → H) (P : Program) (d : Kd α) (t : TypeId) (ok : α → Prop) : Prop := ∀ (w : World) (n : Nat) (cs : List Value) (x : DataW H × List MemPlace),
  DataW.trod enc P w 0 (fun _ => true) true n t cs = some x → (x.1.weights P t).all (· ≤ reachBytes) = true → ∃ a, d.K w a cs ∧ ok a
theorem Rds.int {t : TypeId} {k : IntKind} (ht : P.underlying t = some (.int k)) : Rds enc P (Kd.int k) t (fun n => (Lit.int k n).wf = true) := fun w n cs x h _ => by
  obtain ⟨m, rfl, _, hw⟩ := DataW.trod_int ht h
  exact ⟨m, rfl, hw⟩
theorem Rds.iso {d : Kd α} {t : TypeId} {ok : α → Prop} (h : Rds enc P d t ok) (f : β → α) (g : α → β) (hfg : ∀ a, f (g a) = a) : Rds enc P (Kd.iso d f) t (fun b => ok (f b)) := fun w n cs x hx hz => by
  obtain ⟨a, hK, ho⟩ := h w n cs x hx hz
  refine ⟨g a, ?_, ?_⟩
  · show d.K w (f (g a)) cs
    rw [hfg]; exact hK
  · show ok (f (g a))
    rw [hfg]; exact ho
theorem all_app {l m : List Nat} (h : (l ++ m).all (· ≤ reachBytes) = true) : l.all (· ≤ reachBytes) = true ∧ m.all (· ≤ reachBytes) = true := by
  rw [List.all_append, Bool.and_eq_true] at h
  exact h
theorem weightsAll_at {e : TypeId} : ∀ {l : List (DataW H)} {j : Nat} {y : DataW H}, (DataW.weightsAll P e l).all (· ≤ reachBytes) = true → l[j]? = some y → (y.weights P e).all (· ≤ reachBytes) = true
  | [], j, y, _, hj => by simp at hj
  | d :: r, 0, y, h, hj => by
    cases hj
    rw [DataW.weightsAll] at h
    exact (all_app h).1
  | d :: r, j + 1, y, h, hj => by
    rw [DataW.weightsAll] at h
    exact weightsAll_at (all_app h).2 (by simpa using hj)
theorem Rds.slice [Inhabited α] {d : Kd α} {t e B : Nat} {ok : α → Prop} (he : Rds enc P d e ok) (ht : P.underlying t = some (.slice e)) (hC : P.cellsOf e = d.sz) (hB : P.bytesOf e = B) :
    Rds enc P (Kd.slice e d) t (fun l => l.length * B ≤ reachBytes ∧ ∀ a ∈ l, ok a) := fun w n cs x h hz => by
  rcases open_slice ht h with ⟨rfl, rfl⟩ | ⟨a, len, cap, m, n', D, Pl, rfl, _, hl, hm, hmm, rfl, hi⟩
  · exact ⟨[], ⟨none, 0, rfl, Nat.le_refl _, Kd.C_nil d w⟩, by simp, by simp⟩
  · have hmc : m = cap := by rw [hmm]; rfl
    subst hmc
    simp only [DataW.weights, ht, List.all_cons, Bool.and_eq_true] at hz
    obtain ⟨hz1, hz2⟩ := hz
    have hlen : len * B ≤ reachBytes := by
      rw [← hB]
      refine Nat.le_trans (Nat.mul_le_mul_right _ ?_) (of_decide_eq_true hz1)
      simp
    have each : ∀ i, i < len → ∃ y : α, (∃ c, c.length = d.sz ∧ d.K w y c ∧ ∀ q u, c[q]? = some u → w.cell? (a.add (i * d.sz + q)) = some u) ∧ ok y := fun i hil => by
      obtain ⟨cs', hc, htr⟩ := hi i (by omega)
      have hw : ((D i).weights P e).all (· ≤ reachBytes) = true := weightsAll_at (j := i) (all_app hz2).1 (by rw [List.getElem?_map, List.getElem?_range hil]; rfl)
      obtain ⟨y, hK, ho⟩ := he w n' cs' (D i, Pl i) htr hw
      rw [hC] at hc
      obtain ⟨_, hcl, hat⟩ := World.cells?_some hc
      refine ⟨y, ⟨cs', hcl, hK, fun q u hu => ?_⟩, ho⟩
      have hq : q < d.sz := by rw [← hcl]; exact (List.getElem?_eq_some_iff.1 hu).1
      rw [← Go.Deep.add_add, hat q hq, hu]
    obtain ⟨V, hV⟩ := choose_lt each
    have hlr : ((List.range len).map V).length = len := by simp
    refine ⟨(List.range len).map V, ⟨some a, m, by rw [hlr], by rw [hlr]; exact hl, by rw [hlr], by rw [hlr]; unfold maxLen at hm; omega, fun _ => ⟨a, rfl, fun j y hy => ?_⟩⟩, by rw [hlr]; exact hlen, fun y hy => ?_⟩
    · have hj : j < len := by rw [← hlr]; exact (List.getElem?_eq_some_iff.1 hy).1
      rw [List.getElem?_map, List.getElem?_range hj] at hy
      cases hy
      exact (hV j hj).1
    · obtain ⟨j, hj, rfl⟩ := List.mem_map.1 hy
      exact (hV j (List.mem_range.1 hj)).2
/-- The same for the fields of a struct, from a place on. -/
def RdF (enc : TypeId × Value → H) (P : Program) (d : Kd α) (l : List Field) (o : Nat) (ok : α → Prop) : Prop := ∀ (w : World) (n : Nat) (cs : List Value) (xs : List (DataW H × List MemPlace)),
  (∀ (i : Nat) (f : Field), l[i]? = some f → DataW.trod enc P w 0 (fun _ => true) true n f.type ((cs.drop f.offset).take (P.cellsOf f.type)) = xs[i]?) → xs.length = l.length →
  (DataW.weightsEach P (l.map (·.type)) (xs.map (·.1))).all (· ≤ reachBytes) = true → cs.length = o + (l.map fun f => P.cellsOf f.type).sum → ∃ a, d.K w a (cs.drop o) ∧ ok a
theorem RdF.one {d : Kd α} {f : Field} {o : Nat} {ok : α → Prop} (h : Rds enc P d f.type ok) (ho : f.offset = o) : RdF enc P d [f] o ok := fun w n cs xs hx hl hz hc => by
  match xs, hl with
  | [y], _ =>
    have h1 := hx 0 f rfl
    rw [ho] at h1
    simp only [List.map_cons, List.map_nil, DataW.weightsEach, List.append_nil] at hz
    simp only [List.map_cons, List.map_nil, List.sum_cons, List.sum_nil] at hc
    obtain ⟨a, hK, hok⟩ := h w n _ y h1 hz
    rw [List.take_of_length_le (by rw [List.length_drop]; omega)] at hK
    exact ⟨a, hK, hok⟩
theorem RdF.cons {d : Kd α} {d2 : Kd β} {f : Field} {l : List Field} {o : Nat} {ok : α → Prop} {ok2 : β → Prop} (h : Rds enc P d f.type ok) (ho : f.offset = o) (h2 : RdF enc P d2 l (o + P.cellsOf f.type) ok2) : RdF enc P (Kd.pair d d2) (f :: l) o (fun x => ok x.1 ∧ ok2 x.2) := fun w n cs xs hx hl hz hc => by
  match xs, hl with
  | y :: ys, hl =>
    have h1 := hx 0 f rfl
    rw [ho] at h1
    simp only [List.map_cons, DataW.weightsEach] at hz
    simp only [List.map_cons, List.sum_cons] at hc
    obtain ⟨a, hK, hok⟩ := h w n _ y h1 (all_app hz).1
    obtain ⟨b, hK2, hok2⟩ := h2 w n cs ys (fun i g hg => by have := hx (i + 1) g (by simpa using hg); simpa using this) (by simpa using hl) (all_app hz).2 (by omega)
    refine ⟨(a, b), ⟨_, _, ?_, hK, hK2⟩, hok, hok2⟩
    rw [← List.drop_drop, List.take_append_drop]
theorem RdF.struct {d : Kd α} {t : TypeId} {fs : Array Field} {ok : α → Prop} (ht : P.underlying t = some (.struct fs)) (h : RdF enc P d fs.toList 0 ok) (hc : P.cellsOf t = (fs.toList.map fun f => P.cellsOf f.type).sum) : Rds enc P d t ok := fun w n cs x hx hz => by
  obtain ⟨xs, n', rfl, rfl, hl, hlen, hf⟩ := DataW.trod_struct ht hx
  simp only [DataW.weights, ht] at hz
  have := h w n' cs xs (fun i f hi => hf i f (by simpa using hi)) (by simpa using hlen) hz (by rw [hl, hc]; omega)
  rwa [List.drop_zero] at this
end
end Go.Proofs.YtegpepnmnlockaaDoor.PL
namespace Go.Proofs.YtegpepnmnlockaaDoor.PL
open Go.RowKit Go.ChangeShapes Go.WideShapes Go.Deep Go.Proofs.YtegpepnmnlockaaDoorW.PrintWords Go.Proofs.YtegpepnmnlockaaDoorW.PrintLast Go.Proofs.YtegpepnmnlockaaDoorW.PrintMore
set_option linter.unusedVariables false
set_option linter.unusedSimpArgs false
section
variable {H : Type} {enc : TypeId × Value → H}
def W64 (n : Int) : Prop := (Lit.int .i64 n).wf = true
instance : Inhabited S47 := ⟨z47⟩
instance : Inhabited S57 := ⟨z57⟩
instance : Inhabited S59 := ⟨z59⟩
def W47 (x : S47) : Prop := W64 x.f0 ∧ W64 x.f1 ∧ W64 x.f2 ∧ W64 x.f3 ∧ W64 x.f4
def W55 (x : S55) : Prop := W64 x.f0 ∧ W64 x.f1
def W57 (x : S57) : Prop := W64 x.f0 ∧ W55 x.f1 ∧ W55 x.f2
theorem rdI : Rds enc Tryd.prog (Kd.int .i64) 3 W64 := Rds.int Tryd.underlying3
theorem rds47 : Rds enc Tryd.prog k47 47 W47 :=
  Rds.iso (RdF.struct Tryd.underlying47 (RdF.cons rdI rfl (RdF.cons rdI (by kernel_rfl) (RdF.cons rdI (by kernel_rfl) (RdF.cons rdI (by kernel_rfl) (RdF.one rdI (by kernel_rfl)))))) (by kernel_rfl)) _ (fun p => ⟨p.1, p.2.1, p.2.2.1, p.2.2.2.1, p.2.2.2.2⟩) (fun _ => rfl)
theorem rds55 : Rds enc Tryd.prog k55 55 W55 :=
  Rds.iso (RdF.struct Tryd.underlying55 (RdF.cons rdI rfl (RdF.one rdI (by kernel_rfl))) (by kernel_rfl)) _ (fun p => ⟨p.1, p.2⟩) (fun _ => rfl)
theorem rds57 : Rds enc Tryd.prog k57 57 W57 :=
  Rds.iso (RdF.struct Tryd.underlying57 (RdF.cons rdI rfl (RdF.cons rds55 (by kernel_rfl) (RdF.one rds55 (by kernel_rfl)))) (by kernel_rfl)) _ (fun p => ⟨p.1, p.2.1, p.2.2⟩) (fun _ => rfl)
theorem rds22 : Rds enc Tryd.prog (Kd.slice 3 (Kd.int .i64)) 22 (fun l => l.length * 8 ≤ reachBytes ∧ ∀ a ∈ l, W64 a) := Rds.slice rdI Tryd.underlying22 (by kernel_rfl) (by kernel_rfl)
theorem rds23 : Rds enc Tryd.prog (Kd.slice 47 k47) 23 (fun l => l.length * 40 ≤ reachBytes ∧ ∀ a ∈ l, W47 a) := Rds.slice rds47 Tryd.underlying23 (by kernel_rfl) (by kernel_rfl)
theorem rds24 : Rds enc Tryd.prog (Kd.slice 57 k57) 24 (fun l => l.length * 40 ≤ reachBytes ∧ ∀ a ∈ l, W57 a) := Rds.slice rds57 Tryd.underlying24 (by kernel_rfl) (by kernel_rfl)
theorem rds26 : Rds enc Tryd.prog k26 26 (fun x => (x.f0.length * 8 ≤ reachBytes ∧ ∀ a ∈ x.f0, W64 a) ∧ (x.f1.length * 40 ≤ reachBytes ∧ ∀ a ∈ x.f1, W47 a) ∧ (x.f2.length * 40 ≤ reachBytes ∧ ∀ a ∈ x.f2, W57 a)) :=
  Rds.iso (RdF.struct Tryd.underlying26 (RdF.cons rds22 rfl (RdF.cons rds23 (by kernel_rfl) (RdF.one rds24 (by kernel_rfl)))) (by kernel_rfl)) _ (fun p => ⟨p.1, p.2.1, p.2.2⟩) (fun _ => rfl)
set_option maxRecDepth 100000 in
/-- A book that came in. -/
theorem open26 {W : World} {v : Value} {d : DataW H} {p : List MemPlace} {r : Reach} {b : Nat} (hv : Value.okWide Tryd.prog W r b 26 v) (h : DataW.Trod enc Tryd.prog W 0 (fun _ => true) true 26 v d p) (hz : (d.weights Tryd.prog 26).all (· ≤ reachBytes) = true) :
    ∃ A0 c0 l0 A1 c1 l1 A2 c2 l2, v = .agg #[.slice A0 l0.length c0, .slice A1 l1.length c1, .slice A2 l2.length c2] ∧ Kd.C (Kd.int .i64) W A0 l0.length l0 ∧ l0.length ≤ c0 ∧ Kd.C k47 W A1 l1.length l1 ∧ l1.length ≤ c1 ∧ Kd.C k57 W A2 l2.length l2 ∧ l2.length ≤ c2 ∧
      l0.length * 8 ≤ 140737488351232 ∧ l1.length * 40 ≤ 140737488351232 ∧ l2.length * 40 ≤ 140737488351232 ∧ (∀ a ∈ l0, W64 a) ∧ (∀ a ∈ l1, W47 a) ∧ (∀ a ∈ l2, W57 a) := by
  obtain ⟨cs, rfl, _⟩ := okWide_struct Tryd.underlying26 hv
  obtain ⟨n, hf⟩ := h
  have hex := rds26 W n _ _ hf hz
  generalize hR : reachBytes = R at hex
  obtain ⟨x, hK, hz0, hz1, hz2⟩ := hex
  have hR' : R = 140737488351232 := hR.symm.trans (by kernel_rfl)
  obtain ⟨A0, c0, A1, c1, A2, c2, hcs, g0, r0, g1, r1, g2, r2⟩ := k26_open hK
  have hcs' : cs = #[.slice A0 x.f0.length c0, .slice A1 x.f1.length c1, .slice A2 x.f2.length c2] := Array.toList_inj.1 hcs
  rw [← hR']
  exact ⟨A0, c0, x.f0, A1, c1, x.f1, A2, c2, x.f2, by rw [hcs'], r0, g0, r1, g1, r2, g2, hz0.1, hz1.1, hz2.1, hz0.2, hz1.2, hz2.2⟩
theorem gFates : Tryd.prog.globalNamed "wishbook/lack.fates" = some 0 := by kernel_rfl
theorem tFates : (Tryd.prog.globals[0]?).map (·.type) = some 115 := by kernel_rfl
theorem cells115 : Tryd.prog.cellsOf 115 = 3 := by kernel_rfl
theorem cells114 : Tryd.prog.cellsOf 114 = 1 := by kernel_rfl
theorem row0 : (((begin Tryd.prog (fun _ _ => 0) default).world.heap[0]?).bind Obj.row?).map Prod.snd = some 115 := by kernel_rfl
theorem globals0 : 0 < Tryd.prog.globals.size := of_decide_eq_true (by kernel_rfl)
set_option maxRecDepth 100000 in
/-- What the condition gives the walks: the table's block. -/
theorem fates_of {W : World} (hsh : W.ShapedOpen Tryd.prog) (h : laidMetH Tryd.prog [("wishbook/lack.fates", Rows.laid_wishbook_lack_fates)] W) : Fates W := by
  obtain ⟨g, t, cs, fuel, p, hg, ht, hv, hd⟩ := h.funcs (List.mem_singleton.2 rfl)
  obtain rfl := Option.some.inj (gFates.symm.trans hg)
  obtain rfl := Option.some.inj (tFates.symm.trans ht)
  obtain ⟨xs, m, rfl, hx, hl, hlen, hi⟩ := DataW.trod_array Tryd.underlying115 hd
  rw [cells115, Array.length_toList] at hl
  obtain ⟨l⟩ := cs
  match l, hl, xs, hlen with
  | [a, b, c], _, [y0, y1, y2], _ =>
    rw [cells114] at hi
    have h0 : DataW.trod (funcToken Tryd.prog) Tryd.prog W 0 (fun _ => true) true m 114 [a] = some y0 := hi 0 (by decide)
    have h1 : DataW.trod (funcToken Tryd.prog) Tryd.prog W 0 (fun _ => true) true m 114 [b] = some y1 := hi 1 (by decide)
    have h2 : DataW.trod (funcToken Tryd.prog) Tryd.prog W 0 (fun _ => true) true m 114 [c] = some y2 := hi 2 (by decide)
    obtain ⟨hx, _⟩ := Prod.mk.inj hx
    have hx' : DataW.agg [DataW.held [40, 42, 119, 105, 115, 104, 98, 111, 111, 107, 47, 108, 97, 99, 107, 46, 98, 111, 111, 107, 41, 46, 115, 101, 110, 116], DataW.held [40, 42, 119, 105, 115, 104, 98, 111, 111, 107, 47, 108, 97, 99, 107, 46, 98, 111, 111, 107, 41, 46, 105, 110, 115, 116, 101, 97, 100], DataW.held [40, 42, 119, 105, 115, 104, 98, 111, 111, 107, 47, 108, 97, 99, 107, 46, 98, 111, 111, 107, 41, 46, 108, 105, 115, 116, 101, 100]] = DataW.agg [y0.1, y1.1, y2.1] := hx
    injection hx' with hx'
    injection hx' with e0 hx'
    injection hx' with e1 hx'
    injection hx' with e2 _
    obtain ⟨y0a, y0b⟩ := y0
    obtain ⟨y1a, y1b⟩ := y1
    obtain ⟨y2a, y2b⟩ := y2
    subst e0 e1 e2
    obtain rfl := func_of_trod (f0 := 120) Tryd.underlying114 (by kernel_rfl) h0
    obtain rfl := func_of_trod (f0 := 121) Tryd.underlying114 (by kernel_rfl) h1
    obtain rfl := func_of_trod (f0 := 122) Tryd.underlying114 (by kernel_rfl) h2
    obtain ⟨⟨zero, ty⟩, hz, hty⟩ := Option.map_eq_some_iff.1 row0
    obtain rfl : ty = 115 := hty
    obtain ⟨cs, hb, _⟩ := hsh.1 0 zero 115 globals0 hz
    unfold World.var? at hv
    rw [gFates] at hv
    simp only [Option.bind_some, hb] at hv
    cases hv
    exact hb
theorem few_of {l0 : List Int} {l1 : List S47} {l2 : List S57} (h0 : l0.length * 8 ≤ 140737488351232) (h1 : l1.length * 40 ≤ 140737488351232) (h2 : l2.length * 40 ≤ 140737488351232) : Few l0 l1 l2 := ⟨by omega, by omega, by omega⟩
end
end Go.Proofs.YtegpepnmnlockaaDoor.PL

/- Part 2 of a proof: what the last text rests on. -/
import Derived.Test.YtegpepnmnlockaaDoorXLackComes1
namespace Go.Proofs.YtegpepnmnlockaaDoor.PL
open Go.RowKit Go.Proofs.YtegpepnmnlockaaDoorW.PrintWords Go.Proofs.YtegpepnmnlockaaDoorW.PrintLast Go.Proofs.YtegpepnmnlockaaDoorW.PrintMore
set_option linter.unusedVariables false
set_option linter.unusedSimpArgs false
/-- How many days are told: the last one, of those in a row from n on, that can be. -/
def lateL (K : Nat → Bool) : Nat → Nat → Int → Int
  | 0, _, by' => by'
  | k + 1, n, by' => if K n = true then lateL K k (n + 1) n else by'
/-- Can the list of the delivery's good be kept if it comes n days later? -/
def lateK (l1 : List S47) (l2 : List S57) (sh : List S49) (i : Nat) (n : Nat) : Bool := keptF l1 (rd_T57 l2 i).f0 sh (comTo (moveF l2 i n) l2.length)
theorem moveF_ok {l0 : List Int} {l1 : List S47} {l2 : List S57} (hb : okB l0 l1 l2 = true) {i n : Nat} (hi : i < l2.length) (hn : n ≤ 101) : ∀ y ∈ moveF l2 i n, OkDel y := fun y hy => by
  rcases List.mem_or_eq_of_mem_set hy with hy | rfl
  · exact okDel_of (okB_facts hb).2.1 ((okB_facts hb).2.2.2.2.2.2.2 y hy)
  · have h := okB_del hb hi
    have := (okB_facts hb).2.1
    unfold okDel at h
    unfold OkDel
    show 0 ≤ (rd_T57 l2 i).f0 ∧ (rd_T57 l2 i).f0 ≤ 4 ∧ 1 ≤ (rd_T57 l2 i).f1.f1 + (n : Int) ∧ (rd_T57 l2 i).f1.f1 + (n : Int) ≤ 300 ∧ 0 ≤ (rd_T57 l2 i).f2.f0 ∧ (rd_T57 l2 i).f2.f0 ≤ 50
    omega
theorem moveF_f0 (l2 : List S57) (i : Nat) (n : Int) : (rd_T57 (moveF l2 i n) i).f0 = (rd_T57 l2 i).f0 := by
  by_cases h : i < l2.length
  · unfold moveF
    conv => lhs; unfold rd_T57
    rw [Int.toNat_natCast, List.getD_eq_getElem?_getD, List.getElem?_set_self h]
    rfl
  · unfold moveF
    rw [List.set_eq_of_length_le (by omega)]
def lack_Late.f (l0 : List Int) (l1 : List S47) (l2 : List S57) (a1 : Int) : Option (Int × Int) :=
  if Few l0 l1 l2 then (if okB l0 l1 l2 = true then (if 0 ≤ a1 ∧ a1 ≤ (l2.length : Int) - 1 then some (lateL (lateK l1 l2 (servF l0 l1 l2).2 a1.toNat) 101 0 0, 0) else some (0, 101)) else some (0, 100)) else none
set_option maxHeartbeats 8000000 in
set_option maxRecDepth 100000 in
theorem lack_Late.calls (A0 : Option Addr) (c0 : Nat) (l0 : List Int) (A1 : Option Addr) (c1 : Nat) (l1 : List S47) (A2 : Option Addr) (c2 : Nat) (l2 : List S57) (a1 : Int) (r1 : Int) (r2 : Int) (w : World)
    (h0 : Kd.C (Kd.int .i64) w A0 l0.length l0) (hc0 : l0.length ≤ c0) (h1 : Kd.C k47 w A1 l1.length l1) (hc1 : l1.length ≤ c1) (h2 : Kd.C k57 w A2 l2.length l2) (hc2 : l2.length ≤ c2) (hfa : Fates w)
    (h : lack_Late.f l0 l1 l2 a1 = some (r1, r2)) :
    Calls Tryd.prog 24 #[.agg #[.slice A0 l0.length c0, .slice A1 l1.length c1, .slice A2 l2.length c2], .int .i64 a1] w fun e w' => e = .returned (.tuple #[.int .i64 r1, .int .i64 r2]) ∧ Below w.heap.size w w' := by
  unfold lack_Late.f at h
  by_cases hf : Few l0 l1 l2
  case neg => rw [if_neg hf] at h; cases h
  rw [if_pos hf] at h
  have H0 := Aside0.mk h0
  have H1 := Aside0.mk h1
  have H2 := Aside0.mk h2
  have HFA := Aside0.mk hfa
  clear h0 h1 h2 hfa
  have hu26 := Tryd.underlying26
  have hu86 := Tryd.underlying86
  have W1 := below_alloc (Below.refl w.heap.size w) (.cells #[.slice A0 l0.length c0, .slice A1 l1.length c1, .slice A2 l2.length c2] 26)
  have HW1 := Aside0.mk W1
  clear W1
  have q := cell_book w A0 A1 A2 c0 c1 c2 l0 l1 l2
  have q0 := q.1
  have q1 := q.2.1
  have q2 := q.2.2
  clear q
  have hgw : IntKind.i64.wrap ((l2.length : Int) - 1) = (l2.length : Int) - 1 := by
    have h9 : (l2.length : Int) < 9000000000000000000 := hf.2.2
    rw [IntKind.wrap_i64]; omega
  by_cases c1_ : 0 ≤ a1 ∧ a1 ≤ (l2.length : Int) - 1
  · have hw1 : lack_within.f a1 0 ((l2.length : Int) - 1) = some true := by rw [within_f, decide_eq_true c1_]
    cases hb : okB l0 l1 l2 with
    | false =>
      rw [hb] at h
      cases h
      go_enter Tryd.func24, Tryd.ntmps24
      go_upto_region 1 with (fail)
      go_region_held3 (fun W => W.cell? ⟨w.heap.size, 0, none⟩ = some (.slice A0 l0.length c0) ∧ W.cell? ⟨w.heap.size, 1, none⟩ = some (.slice A1 l1.length c1) ∧ W.cell? ⟨w.heap.size, 2, none⟩ = some (.slice A2 l2.length c2)) (go_keep)
        (first
          | (go_at_call 50; (with_reducible refine (lack_within.calls _ 0 ((l2.length : Int) - 1) true _ hw1).mono ?_); rintro e w2 ⟨rfl, ⟨nd, rfl⟩⟩)
          | (go_at_call 46; (with_reducible refine (asked_bad A0 A1 A2 c0 c1 c2 l0 l1 l2 true _ (Kd.C_below H0.out (by repeat (first | (with_reducible exact HW1.out) | apply below_drew | apply pw_below_drewN))) hc0 (Kd.C_below H1.out (by repeat (first | (with_reducible exact HW1.out) | apply below_drew | apply pw_below_drewN))) hc1 (Kd.C_below H2.out (by repeat (first | (with_reducible exact HW1.out) | apply below_drew | apply pw_below_drewN))) hc2 hf hb).mono ?_); rintro e w4 ⟨rfl, hb4⟩; have HB4 := Aside0.mk (below_step (by repeat (first | (with_reducible exact HW1.out) | apply below_drew | apply pw_below_drewN)) hb4); have q0' := pw_cell_below hb4 (a := ⟨w.heap.size, 0, none⟩) (v := .slice A0 l0.length c0) q0; have q1' := pw_cell_below hb4 (a := ⟨w.heap.size, 1, none⟩) (v := .slice A1 l1.length c1) q1; have q2' := pw_cell_below hb4 (a := ⟨w.heap.size, 2, none⟩) (v := .slice A2 l2.length c2) q2; clear hb4))
      go_wp2
      refine bodyPost_ret (results_tmp2 rfl _ _ _) rfl ?_
      exact ⟨rfl, HB4.out⟩
    | true =>
      rw [hb] at h
      rw [if_pos rfl, if_pos c1_] at h
      obtain ⟨dl, rfl⟩ := Int.eq_ofNat_of_zero_le c1_.1
      obtain ⟨sh, hsh⟩ : ∃ sh, sh = (servF l0 l1 l2).2 := ⟨_, rfl⟩
      rw [← hsh] at h
      have HSH := Aside0.mk hsh
      clear hsh
      cases h
      go_enter Tryd.func24, Tryd.ntmps24
      go_upto_region 1 with (fail)
      go_region_held3 (fun W => W.cell? ⟨w.heap.size, 0, none⟩ = some (.slice A0 l0.length c0) ∧ W.cell? ⟨w.heap.size, 1, none⟩ = some (.slice A1 l1.length c1) ∧ W.cell? ⟨w.heap.size, 2, none⟩ = some (.slice A2 l2.length c2)) (go_keep)
        (first
          | (go_at_call 50; (with_reducible refine (lack_within.calls _ 0 ((l2.length : Int) - 1) true _ hw1).mono ?_); rintro e w2 ⟨rfl, ⟨nd, rfl⟩⟩)
          | (go_at_call 46; (with_reducible refine (asked_ok A0 A1 A2 c0 c1 c2 l0 l1 l2 true _ (Kd.C_below H0.out (by repeat (first | (with_reducible exact HW1.out) | apply below_drew | apply pw_below_drewN))) hc0 (Kd.C_below H1.out (by repeat (first | (with_reducible exact HW1.out) | apply below_drew | apply pw_below_drewN))) hc1 (Kd.C_below H2.out (by repeat (first | (with_reducible exact HW1.out) | apply below_drew | apply pw_below_drewN))) hc2 hf hb rfl (Fates.below HFA.out (by repeat (first | (with_reducible exact HW1.out) | apply below_drew | apply pw_below_drewN)))).mono ?_); rintro e w4 ⟨g, mb, n, sv, rfl, hbk⟩; have HBK := Aside0.mk (hbk.lower (by repeat (first | (with_reducible exact HW1.out) | apply below_drew | apply pw_below_drewN))); have HX4 := Aside0.mk ((hbk.below.block w.heap.size (by simp)).trans (heap_alloc_new w (.cells #[.slice A0 l0.length c0, .slice A1 l1.length c1, .slice A2 l2.length c2] 26))); have q0' := pw_cell_below hbk.below (a := ⟨w.heap.size, 0, none⟩) (v := .slice A0 l0.length c0) q0; have q1' := pw_cell_below hbk.below (a := ⟨w.heap.size, 1, none⟩) (v := .slice A1 l1.length c1) q1; have q2' := pw_cell_below hbk.below (a := ⟨w.heap.size, 2, none⟩) (v := .slice A2 l2.length c2) q2; clear hbk))
      have FF := Aside0.mk (okB_facts hb)
      have hn5 : l0.length ≤ 5 := FF.out.2.1
      have hl10 : l1.length ≤ 10 := FF.out.2.2.2.1
      have hl6 : l2.length ≤ 6 := FF.out.2.2.2.2.1
      obtain ⟨As, cs, hsv, hcs, hV⟩ := R_cut HBK.out.rows
      have hls : (servF l0 l1 l2).2.length = l1.length := (servF_len l1 l2 hn5).2
      rw [hls] at hsv hcs hV
      subst hsv
      have HCS := Aside0.mk hcs
      have HV := Aside0.mk hV
      clear hV hcs
      have HOK := Aside0.mk (servF_ok hb).2
      rw [← HSH.out] at HV HOK hls
      have HG2 := Aside0.mk (show w4.heap[g]? = some (.cells (bookCells (.slice A0 l0.length c0) (.slice A1 l1.length c1) (.slice A2 l2.length c2) (servF l0 l1 l2).1 mb (.slice As l1.length cs)) 86 (0, 0)) from HBK.out.cells)
      have HL2 := Aside0.mk HBK.out.below
      have HC9 := Aside0.mk (show Kd.C k49 w4 As l1.length sh by rw [← hls]; exact (Kd.V_reads' HV.out).2.2)
      have HM2 := Aside0.mk HBK.out.map
      have hn1000 := HBK.out.small
      have hgw0 := HBK.out.new
      clear HBK q0 q1 q2 q0' q1' q2' hgw hw1
      have PG := Aside0.mk ((blk_cell HG2.out 9).trans (show _ = some (Value.slice As l1.length cs) from rfl))
      have PX2 := Aside0.mk ((blk_cell HX4.out 2).trans (show _ = some (Value.slice A2 l2.length c2) from rfl))
      have hdl : dl < l2.length := by omega
      go_wp2_with (fail)
      go_loopw [8, 26] (fun v i wr => ∃ (n : Nat) (b : Int), n ≤ 101 ∧ i = .int .i64 n ∧ v = .int .i64 b ∧ Aside0 (lateL (lateK l1 l2 sh dl) 101 0 0 = lateL (lateK l1 l2 sh dl) (101 - n) n b) ∧ Aside0 (Below w4.heap.size w4 wr)) (fun _ i _ => 101 - (intOf i).toNat)
      case atStart => exact ⟨0, 0, by omega, rfl, rfl, ⟨rfl⟩, ⟨Below.refl _ _⟩⟩
      case round =>
        obtain ⟨n, b, hn, rfl, rfl, HE, HC⟩ := hrel
        obtain ⟨ad2, e2, d0, d1, d2, d3, d4⟩ := at_T57 (Kd.C_below (Kd.C_below H2.out HL2.out) HC.out) dl (by omega) (by omega)
        clear d0 d1 d2 d3 d4
        subst e2
        have hdel := okB_del hb hdl
        by_cases hnn : n < 101
        · have y2 := pw_cell_below HC.out PX2.out
          go_wp2_with (fail)
          refine (clone24_calls ad2 c2 l2.length l2 wr rfl (Kd.C_below (Kd.C_below H2.out HL2.out) HC.out) (by omega) (by omega)).mono ?_
          rintro e w5 ⟨v, rfl, hR, hb5⟩
          have hC5 := (Kd.R_reads hR)
          obtain ⟨_, inner, ⟨hli, ho⟩, hri⟩ := hR
          rcases ho with ⟨_, h0⟩ | ⟨blk, cap, cur, rfl, hbk, hrow, hcp1, hcp2, hcp3, hcp4⟩
          · omega
          obtain ⟨A5, c5, hv5, hle5, hC5⟩ := hC5
          cases hv5
          have HC5 := Aside0.mk hC5
          have HROW := Aside0.mk hrow
          have HB5 := Aside0.mk (below_step HC.out hb5)
          clear hC5 hb5 hri hli hcp4 y2
          obtain ⟨adn, en, m0, m1, m2, m3, m4⟩ := at_T57 HC5.out dl (by omega) (by omega)
          cases en
          simp only [Int.toNat_natCast, Addr.add_lit, Nat.zero_add] at m2
          have fr2 := blk_frozen HROW.out (dl * 5 + 2)
          clear m0 m1 m3 m4
          have hdn : 0 ≤ (rd_T57 l2 dl).f1.f1 ∧ (rd_T57 l2 dl).f1.f1 ≤ 100 := by
            unfold okDel at hdel
            omega
          have hdli : (dl : Int) < (l2.length : Int) := by omega
          go_upto_region 10 with (fail)
          have HC6 := Aside0.mk (moved_C (W := w5.setCell ⟨blk, dl * 5 + 2, none⟩ (Value.int .i64 ((rd_T57 l2 dl).f1.f1 + (n : Int)))) hdl (by omega) HC5.out (World.cell?_setCell_same _ _ _ m2) (fun k hk => World.cell?_setCell_other _ _ _ _ (fun e => hk (by cases e; rfl))))
          have HB6 := Aside0.mk (HB5.out.setCell (p := ⟨blk, dl * 5 + 2, none⟩) (Nat.le_trans (below_size HC.out) hbk) (Value.int .i64 ((rd_T57 l2 dl).f1.f1 + (n : Int))))
          generalize w5.setCell ⟨blk, dl * 5 + 2, none⟩ (Value.int .i64 ((rd_T57 l2 dl).f1.f1 + (n : Int))) = W6 at HC6 HB6 ⊢
          clear m2 fr2
          have hwc := with_calls g mb A0 A1 (some ad2) As l0.length c0 l1.length c1 l2.length c2 l1.length cs (servF l0 l1 l2).1 (some ⟨blk, 0, none⟩) cap (moveF l2 dl n) W6 (blk_below HG2.out HB6.out) (by rw [moveF_len]; exact HC6.out) (by rw [moveF_len]; exact hcp1) (moveF_ok hb hdl (by omega)) (by rw [moveF_len]; exact hl6)
          rw [moveF_len] at hwc
          go_wp2_with (fail)
          refine hwc.mono ?_
          rintro e w7 ⟨g2, mb2, n2, rfl, hg2, hcells, hmap, hn2, hb7⟩
          have HC7 := Aside0.mk hcells
          have HM7 := Aside0.mk hmap
          have HX7 := Aside0.mk (Kd.C_below HC6.out hb7)
          have HB7 := Aside0.mk (below_step HB6.out hb7)
          clear hwc hcells hmap hb7
          have p9 := pw_cell_below HB7.out PG.out
          obtain ⟨ad7, e7, m0, m1, m2, m3, m4⟩ := at_T57 HX7.out dl (by omega) (by omega)
          cases e7
          simp only [Int.toNat_natCast, Addr.add_lit, Nat.zero_add, moveF_f0] at m0
          clear m1 m2 m3 m4
          have hgd : 0 ≤ (rd_T57 l2 dl).f0 ∧ (rd_T57 l2 dl).f0 ≤ 4 := by
            unfold okDel at hdel
            omega
          have HKC := Aside0.mk (show ∀ W, Below w7.heap.size w7 W → Calls Tryd.prog 58 #[.pointer (some ⟨g2, 0, none⟩), .int .i64 (rd_T57 l2 dl).f0, .slice As l1.length cs] W fun e w' => e = .returned (.bool (lateK l1 l2 sh dl n)) ∧ Below W.heap.size W w' from fun W hW =>
            kept_calls' g2 mb2 n2 (.slice A0 l0.length c0) (.slice (some ⟨blk, 0, none⟩) l2.length cap) (.slice As l1.length cs) A1 c1 l1 (servF l0 l1 l2).1 (comTo (moveF l2 dl n) l2.length) (rd_T57 l2 dl).f0 As cs l1.length sh W hls.symm (blk_below HC7.out hW) (SpotMap.below HM7.out hW)
              (Kd.C_below (Kd.C_below H1.out (below_step HL2.out HB7.out)) hW) hc1 (by rw [hls]; exact Kd.C_below (Kd.C_below HC9.out HB7.out) hW) (by rw [hls]; exact HCS.out) (by omega) (by omega) (fun s hs => by have := HOK.out s hs; unfold OkShare at this; omega) hgd)
          clear hls hgd
          cases hK : lateK l1 l2 sh dl n with
          | false =>
            rw [hK] at HKC
            have HV := Aside0.mk (show lateL (lateK l1 l2 sh dl) (101 - n) n b = b by rw [show 101 - n = (100 - n) + 1 by omega, lateL, hK]; rfl)
            clear hK
            go_wp2_with (fail)
            go_region_held3 (fun W => W.cell? ⟨blk, dl * 5, none⟩ = some (.int .i64 (rd_T57 l2 dl).f0) ∧ W.cell? ⟨g, 9, none⟩ = some (.slice As l1.length cs)) (go_keep)
              ((go_at_call 58; (with_reducible refine (HKC.out _ (by repeat (first | exact Below.refl _ _ | apply below_drew | apply pw_below_drewN))).mono ?_); rintro e w8 ⟨rfl, hb8⟩; have m0' := pw_cell_below hb8 (a := ⟨blk, dl * 5, none⟩) (v := .int .i64 (rd_T57 l2 dl).f0) m0; have p9' := pw_cell_below hb8 (a := ⟨g, 9, none⟩) (v := .slice As l1.length cs) p9; have HB8 := Aside0.mk (below_step (by repeat (first | (with_reducible exact HB7.out) | apply below_drew | apply pw_below_drewN)) hb8); clear hb8))
            all_goals
              go_wp2
              refine bodyPost_ret (results_tmp2 rfl _ _ _) rfl ?_
              exact ⟨by simp only [Int.toNat_natCast]; rw [HE.out, HV.out]; rfl, below_step HL2.out HB8.out⟩
          | true =>
            rw [hK] at HKC
            have HV := Aside0.mk (show lateL (lateK l1 l2 sh dl) (101 - n) n b = lateL (lateK l1 l2 sh dl) (101 - (n + 1)) (n + 1) n by rw [show 101 - n = (101 - (n + 1)) + 1 by omega, lateL, hK]; rfl)
            clear hK
            go_wp2_with (fail)
            go_region_held3 (fun W => W.cell? ⟨blk, dl * 5, none⟩ = some (.int .i64 (rd_T57 l2 dl).f0) ∧ W.cell? ⟨g, 9, none⟩ = some (.slice As l1.length cs)) (go_keep)
              ((go_at_call 58; (with_reducible refine (HKC.out _ (by repeat (first | exact Below.refl _ _ | apply below_drew | apply pw_below_drewN))).mono ?_); rintro e w8 ⟨rfl, hb8⟩; have m0' := pw_cell_below hb8 (a := ⟨blk, dl * 5, none⟩) (v := .int .i64 (rd_T57 l2 dl).f0) m0; have p9' := pw_cell_below hb8 (a := ⟨g, 9, none⟩) (v := .slice As l1.length cs) p9; have HB8 := Aside0.mk (below_step (by repeat (first | (with_reducible exact HB7.out) | apply below_drew | apply pw_below_drewN)) hb8); clear hb8))
            all_goals
              go_wp2
              go_roundw
              case rel => exact ⟨n + 1, n, by omega, by go_num, rfl, ⟨by rw [HE.out, HV.out]⟩, HB8⟩
              case measure => simp [intOf]; omega
        · obtain rfl : n = 101 := by omega
          go_wp2
          refine bodyPost_ret (results_tmp2 rfl _ _ _) rfl ?_
          exact ⟨by simp only [Int.toNat_natCast]; rw [HE.out]; rfl, below_step HL2.out HC.out⟩
  · have hw1 : lack_within.f a1 0 ((l2.length : Int) - 1) = some false := by rw [within_f, decide_eq_false c1_]
    cases hb : okB l0 l1 l2 with
    | false =>
      rw [hb] at h
      cases h
      go_enter Tryd.func24, Tryd.ntmps24
      go_upto_region 1 with (fail)
      go_region_held3 (fun W => W.cell? ⟨w.heap.size, 0, none⟩ = some (.slice A0 l0.length c0) ∧ W.cell? ⟨w.heap.size, 1, none⟩ = some (.slice A1 l1.length c1) ∧ W.cell? ⟨w.heap.size, 2, none⟩ = some (.slice A2 l2.length c2)) (go_keep)
        (first
          | (go_at_call 50; (with_reducible refine (lack_within.calls _ 0 ((l2.length : Int) - 1) false _ hw1).mono ?_); rintro e w2 ⟨rfl, ⟨nd, rfl⟩⟩)
          | (go_at_call 46; (with_reducible refine (asked_bad A0 A1 A2 c0 c1 c2 l0 l1 l2 false _ (Kd.C_below H0.out (by repeat (first | (with_reducible exact HW1.out) | apply below_drew | apply pw_below_drewN))) hc0 (Kd.C_below H1.out (by repeat (first | (with_reducible exact HW1.out) | apply below_drew | apply pw_below_drewN))) hc1 (Kd.C_below H2.out (by repeat (first | (with_reducible exact HW1.out) | apply below_drew | apply pw_below_drewN))) hc2 hf hb).mono ?_); rintro e w4 ⟨rfl, hb4⟩; have HB4 := Aside0.mk (below_step (by repeat (first | (with_reducible exact HW1.out) | apply below_drew | apply pw_below_drewN)) hb4); have q0' := pw_cell_below hb4 (a := ⟨w.heap.size, 0, none⟩) (v := .slice A0 l0.length c0) q0; have q1' := pw_cell_below hb4 (a := ⟨w.heap.size, 1, none⟩) (v := .slice A1 l1.length c1) q1; have q2' := pw_cell_below hb4 (a := ⟨w.heap.size, 2, none⟩) (v := .slice A2 l2.length c2) q2; clear hb4))
      go_wp2
      refine bodyPost_ret (results_tmp2 rfl _ _ _) rfl ?_
      exact ⟨rfl, HB4.out⟩
    | true =>
      rw [hb] at h
      rw [if_pos rfl, if_neg c1_] at h
      cases h
      go_enter Tryd.func24, Tryd.ntmps24
      go_upto_region 1 with (fail)
      go_region_held3 (fun W => W.cell? ⟨w.heap.size, 0, none⟩ = some (.slice A0 l0.length c0) ∧ W.cell? ⟨w.heap.size, 1, none⟩ = some (.slice A1 l1.length c1) ∧ W.cell? ⟨w.heap.size, 2, none⟩ = some (.slice A2 l2.length c2)) (go_keep)
        (first
          | (go_at_call 50; (with_reducible refine (lack_within.calls _ 0 ((l2.length : Int) - 1) false _ hw1).mono ?_); rintro e w2 ⟨rfl, ⟨nd, rfl⟩⟩)
          | (go_at_call 46; (with_reducible refine (asked_not A0 A1 A2 c0 c1 c2 l0 l1 l2 false _ (Kd.C_below H0.out (by repeat (first | (with_reducible exact HW1.out) | apply below_drew | apply pw_below_drewN))) hc0 (Kd.C_below H1.out (by repeat (first | (with_reducible exact HW1.out) | apply below_drew | apply pw_below_drewN))) hc1 (Kd.C_below H2.out (by repeat (first | (with_reducible exact HW1.out) | apply below_drew | apply pw_below_drewN))) hc2 hf hb rfl).mono ?_); rintro e w4 ⟨rfl, hb4⟩; have HB4 := Aside0.mk (below_step (by repeat (first | (with_reducible exact HW1.out) | apply below_drew | apply pw_below_drewN)) hb4); have q0' := pw_cell_below hb4 (a := ⟨w.heap.size, 0, none⟩) (v := .slice A0 l0.length c0) q0; have q1' := pw_cell_below hb4 (a := ⟨w.heap.size, 1, none⟩) (v := .slice A1 l1.length c1) q1; have q2' := pw_cell_below hb4 (a := ⟨w.heap.size, 2, none⟩) (v := .slice A2 l2.length c2) q2; clear hb4))
      go_wp2
      refine bodyPost_ret (results_tmp2 rfl _ _ _) rfl ?_
      exact ⟨rfl, HB4.out⟩
end Go.Proofs.YtegpepnmnlockaaDoor.PL
namespace Go.Proofs.YtegpepnmnlockaaDoor.PL
open Go.RowKit Go.Proofs.YtegpepnmnlockaaDoorW.PrintWords Go.Proofs.YtegpepnmnlockaaDoorW.PrintLast Go.Proofs.YtegpepnmnlockaaDoorW.PrintMore
set_option linter.unusedVariables false
set_option linter.unusedSimpArgs false
theorem below_setCells57 {B b : Nat} {a : World} (hb : B ≤ b) : ∀ (vs : List Value) (o : Nat) (w : World), Below B a w → Below B a (w.setCells b o vs)
  | [], _, _, h => h
  | v :: vs, o, w, h => below_setCells57 hb vs (o + 1) _ (h.setCell (p := ⟨b, o, none⟩) hb v)
theorem run_clear57 (w : World) (ty : TypeId) (b o c : Nat) (hc : ∀ j, j < 5 → (w.cell? ⟨b, o + j, none⟩).isSome = true) (hf : ∀ j, j < 5 → w.frozen? ⟨b, o + j, none⟩ = false) :
    (Builtin.clear_ #[24] ty #[.slice (some ⟨b, o, none⟩) 1 c]).run Tryd.prog w = .ok (.tuple #[]) (w.setCells b o (List.replicate 5 (.int .i64 0))) := by
  have hv : ∀ w, (zeroValue 57).run Tryd.prog w = .ok (.agg #[.int .i64 0, .int .i64 0, .int .i64 0, .int .i64 0, .int .i64 0]) w := fun w => by kernel_rfl
  have hzc : (Builtin.zeroCells (Value.agg #[.int .i64 0, .int .i64 0, .int .i64 0, .int .i64 0, .int .i64 0]).cells 1).toList = List.replicate 5 (.int .i64 0) := by kernel_rfl
  have hst := run_storeCells_cells (P := Tryd.prog) b o (List.replicate 5 (Value.int .i64 0)) 0 w (by simpa using hc) (by simpa using hf) (by intro v hv'; rw [List.eq_of_mem_replicate hv']; rfl)
  simp only [Nat.add_zero] at hst
  rw [← hzc] at hst
  simp [Builtin.clear_, run_underlying Tryd.underlying24, hv, hst]
  rw [hzc]
  rfl
section
variable {α : Type} {d : Kd α} {enc : α → List Value}
theorem Flat.take (F : Flat d enc) (xs : List α) (i : Nat) (h : i ≤ xs.length) : (xs.take i).flatMap enc = (xs.flatMap enc).take (i * d.sz) := by
  have e : xs.flatMap enc = (xs.take i).flatMap enc ++ (xs.drop i).flatMap enc := by rw [← List.flatMap_append, List.take_append_drop]
  rw [e, List.take_left' (by rw [F.olds, List.length_take, Nat.min_eq_left h])]
theorem Flat.drop (F : Flat d enc) (xs : List α) (i : Nat) (h : i ≤ xs.length) : (xs.drop i).flatMap enc = (xs.flatMap enc).drop (i * d.sz) := by
  have e : xs.flatMap enc = (xs.take i).flatMap enc ++ (xs.drop i).flatMap enc := by rw [← List.flatMap_append, List.take_append_drop]
  rw [e, List.drop_left' (by rw [F.olds, List.length_take, Nat.min_eq_left h])]
theorem Flat.C_of (F : Flat d enc) {w : World} {blk n : Nat} {xs : List α} (hn : xs.length = n) (hm : n ≤ 1000) (h : ∀ j u, (xs.flatMap enc)[j]? = some u → w.cell? ⟨blk, j, none⟩ = some u) : Kd.C d w (some ⟨blk, 0, none⟩) n xs := by
  subst hn
  refine F.C_mk hm fun j x hx q u hu => h _ _ ?_
  have h2 := (F.reps xs).2 _ _ hx
  have hq : q < d.sz := by rw [← F.len x]; exact (List.getElem?_eq_some_iff.1 hu).1
  rw [← h2, List.getElem?_take, if_pos hq, List.getElem?_drop] at hu
  exact hu
end
set_option maxHeartbeats 8000000 in
set_option maxRecDepth 100000 in
theorem delete62_calls (blk cap i n : Nat) (xs : List S57) (w : World) (cur : Array Value) (hn : xs.length = n) (hrow : w.heap[blk]? = some (.cells cur 57 (0, 0))) (hsz : cur.size = cap * 5) (hC : Kd.C k57 w (some ⟨blk, 0, none⟩) n xs)
    (hcap : n ≤ cap) (hm : cap ≤ 9223372036854775807) (hi : i < n) (hl : n ≤ 6) :
    Calls Tryd.prog 62 #[.slice (some ⟨blk, 0, none⟩) n cap, .int .i64 (i : Int), .int .i64 ((i : Int) + 1)] w fun e w' => e = .returned (.slice (some ⟨blk, 0, none⟩) (n - 1) cap) ∧
      Kd.C k57 w' (some ⟨blk, 0, none⟩) (n - 1) (xs.eraseIdx i) ∧ Below blk w w' := by
  have there : ∀ p, p < cap * 5 → (w.cell? ⟨blk, p, none⟩).isSome = true := fun p hp => by
    rw [blk_cell hrow, Array.getElem?_eq_getElem (by omega)]
    rfl
  have free : ∀ p, w.frozen? ⟨blk, p, none⟩ = false := fun p => blk_frozen hrow p
  have hat : ∀ j u, (xs.flatMap enc57)[j]? = some u → w.cell? ⟨blk, j, none⟩ = some u := fun j u hu => by
    have := flat57.cells hC j u hu
    rwa [Addr.add_lit, Nat.zero_add] at this
  have hfl : (xs.flatMap enc57).length = n * 5 := by rw [← hn]; exact flat57.olds xs
  obtain ⟨news, hnews⟩ : ∃ news, news = (xs.flatMap enc57).drop ((i + 1) * 5) := ⟨_, rfl⟩
  have hlen : news.length = (n - (i + 1)) * 5 := by rw [hnews, List.length_drop, hfl]; omega
  have hone : ∀ u ∈ news, u.oneCell' = true := fun u hu => by
    rw [hnews] at hu
    obtain ⟨x, -, hx⟩ := List.mem_flatMap.1 (List.mem_of_mem_drop hu)
    exact flat57.one x u hx
  obtain ⟨W1, hW1⟩ : ∃ W1, W1 = w.drew.setCells blk (0 + i * 5) news := ⟨_, rfl⟩
  obtain ⟨W2, hW2⟩ : ∃ W2, W2 = W1.setCells blk ((n - 1) * 5) (List.replicate 5 (Value.int .i64 0)) := ⟨_, rfl⟩
  have hfree1 : ∀ p, W1.frozen? ⟨blk, p, none⟩ = false := fun p => by rw [hW1, World.frozen?_setCells]; exact free p
  have hthere1 : ∀ p, p < cap * 5 → (W1.cell? ⟨blk, p, none⟩).isSome = true := fun p hp => by rw [hW1]; exact World.isSome_setCells _ _ _ _ _ (there p hp)
  have hback : Below blk w W2 := by
    rw [hW2, hW1]
    exact below_setCells57 (Nat.le_refl _) _ _ _ (below_setCells57 (Nat.le_refl _) _ _ _ (below_drew (Below.refl _ _)))
  have hres : Kd.C k57 W2 (some ⟨blk, 0, none⟩) (n - 1) (xs.eraseIdx i) := by
    refine flat57.C_of (by rw [List.length_eraseIdx, if_pos (by omega), hn]) (by omega) fun j u hu => ?_
    rw [List.eraseIdx_eq_take_drop_succ, List.flatMap_append, flat57.take _ _ (by omega), flat57.drop _ _ (by omega)] at hu
    show W2.cell? ⟨blk, j, none⟩ = some u
    have h5 : k57.sz = 5 := rfl
    rw [h5, ← hnews] at hu
    have hj : j < (n - 1) * 5 := by
      have := (List.getElem?_eq_some_iff.1 hu).1
      rw [List.length_append, List.length_take, hfl, hlen, Nat.min_eq_left (by omega)] at this
      omega
    rw [hW2, World.cell?_setCells_out _ _ _ _ _ (fun _ _ => Or.inl hj), hW1]
    by_cases hji : j < i * 5
    · rw [World.cell?_setCells_out _ _ _ _ _ (fun _ _ => Or.inl (by show j < 0 + i * 5; omega))]
      rw [List.getElem?_append_left (by rw [List.length_take, hfl]; omega), List.getElem?_take_of_lt hji] at hu
      exact hat j u hu
    · rw [List.getElem?_append_right (by rw [List.length_take, hfl]; omega), List.length_take, hfl, Nat.min_eq_left (by omega)] at hu
      obtain ⟨q, rfl⟩ : ∃ q, j = 0 + i * 5 + q := ⟨j - i * 5, by omega⟩
      rw [show 0 + i * 5 + q - i * 5 = q by omega] at hu
      have hq := List.getElem?_eq_some_iff.1 hu
      rw [World.cell?_setCells_in blk news (0 + i * 5) w.drew (fun t ht => there _ (by rw [hlen] at ht; omega)) q hq.1, hq.2]
  have hclr : ∀ ty, (Builtin.clear_ #[24] ty #[.slice (some ⟨blk, (i + (n - (i + 1))) * 5, none⟩) (n - (i + (n - (i + 1)))) (cap - (i + (n - (i + 1))))]).run Tryd.prog W1 = .ok (.tuple #[]) W2 := fun ty => by
    rw [hW2, show i + (n - (i + 1)) = n - 1 by omega, show n - (n - 1) = 1 by omega]
    exact run_clear57 W1 ty blk ((n - 1) * 5) _ (fun j hj => hthere1 _ (by omega)) (fun j hj => hfree1 _)
  obtain ⟨A, hA, hsrc⟩ : ∃ A : Addr, (if cap = i + 1 then some (⟨blk, 0, none⟩ : Addr) else some ⟨blk, (i + 1) * 5, none⟩) = some A ∧ Hid (∀ t u, news[t]? = some u → w.drew.cell? (A.add t) = some u) := by
    by_cases h : cap = i + 1
    · refine ⟨⟨blk, 0, none⟩, by simp [h], fun t u hu => ?_⟩
      have h0 : news.length = 0 := by rw [hlen]; omega
      rw [List.length_eq_zero_iff.1 h0] at hu
      simp at hu
    · refine ⟨⟨blk, (i + 1) * 5, none⟩, by simp [h], fun t u hu => ?_⟩
      rw [hnews, List.getElem?_drop] at hu
      rw [Addr.add_lit]
      exact hat _ _ hu
  have s1 := Aside0.mk hlen
  have s2 := Aside0.mk hone
  have s3 := Aside0.mk (show ∀ t, t < news.length → (w.drew.cell? ⟨blk, 0 + i * 5 + t, none⟩).isSome = true ∧ w.drew.frozen? ⟨blk, 0 + i * 5 + t, none⟩ = false from fun t ht => ⟨there _ (by rw [hlen] at ht; omega), free _⟩)
  have HW1 := Aside0.mk hW1
  have HR := Aside0.mk (And.intro hres hback)
  have hic : i ≤ cap := by omega
  have hjc : i + 1 ≤ cap := by omega
  have hnn : (i : Int) ≤ (n : Int) := by omega
  have q1 : 0 ≤ (i : Int) + 1 := by omega
  have q2 : (i : Int) + 1 ≤ (n : Int) := by omega
  have hne : ((i : Int) == (i : Int) + 1) = false := beq_eq_false_iff_ne.2 (by omega)
  clear hW1 hW2 hthere1 hfree1 hres hback hnews hlen hone hfl hat there free hrow hC hn
  go_enter Tryd.func62, Tryd.ntmps62
  go_wp2_with (fail)
  obtain ⟨i0, hi0, hz0, hz1, hz2⟩ := info_parts info57
  go_region_law (refine step_append_room rfl (.tmp 22) (.tmp 25) 24 rfl 57 i0 5 Tryd.underlying24 hi0 hz1 blk 0 i cap (by simp [Act.eval, Act.put]) A (n - (i + 1)) (cap - (i + 1)) news (by simp [Act.eval, Act.put]) s1.out hsrc.out s2.out (by omega) s3.out ?_; rw [← HW1.out])
  go_wp2
  refine bodyPost_ret (results_tmp rfl _ _ _) rfl ?_
  exact ⟨by rw [show n - 1 = i + (n - (i + 1)) by omega]; rfl, HR.out⟩
end Go.Proofs.YtegpepnmnlockaaDoor.PL
namespace Go.Proofs.YtegpepnmnlockaaDoor.PL
open Go.RowKit Go.Proofs.YtegpepnmnlockaaDoorW.PrintWords Go.Proofs.YtegpepnmnlockaaDoorW.PrintLast Go.Proofs.YtegpepnmnlockaaDoorW.PrintMore
set_option linter.unusedVariables false
set_option linter.unusedSimpArgs false
/-- The lines, of the first n, that could not be kept with what comes by F. -/
def brokF (l1 : List S47) (sh : List S49) (F : Int → Int → Int) : Nat → List Int
  | 0 => []
  | i + 1 => brokF l1 sh F i ++ (if (decide (0 < (rd_T49 sh (i : Nat)).f2) && !keptF l1 (rd_T47 l1 (i : Nat)).f1 (sh.take (i + 1)) F) = true then [(i : Int)] else [])
theorem brokF_len (l1 : List S47) (sh : List S49) (F : Int → Int → Int) : ∀ i, (brokF l1 sh F i).length ≤ i
  | 0 => Nat.le_refl _
  | i + 1 => by
    have := brokF_len l1 sh F i
    rw [brokF, List.length_append]
    split <;> simp <;> omega
theorem erase_ok {l0 : List Int} {l1 : List S47} {l2 : List S57} (hb : okB l0 l1 l2 = true) (i : Nat) : ∀ y ∈ l2.eraseIdx i, OkDel y := fun y hy =>
  okDel_of (okB_facts hb).2.1 ((okB_facts hb).2.2.2.2.2.2.2 y (List.mem_of_mem_eraseIdx hy))
def lack_Broken.f (l0 : List Int) (l1 : List S47) (l2 : List S57) (a1 : Int) : Option (List Int × Int) :=
  if Few l0 l1 l2 then (if okB l0 l1 l2 = true then (if 0 ≤ a1 ∧ a1 ≤ (l2.length : Int) - 1 then some (brokF l1 (servF l0 l1 l2).2 (comTo (l2.eraseIdx a1.toNat) (l2.length - 1)) l1.length, 0) else some ([], 101)) else some ([], 100)) else none
set_option maxHeartbeats 8000000 in
set_option maxRecDepth 100000 in
theorem lack_Broken.calls (A0 : Option Addr) (c0 : Nat) (l0 : List Int) (A1 : Option Addr) (c1 : Nat) (l1 : List S47) (A2 : Option Addr) (c2 : Nat) (l2 : List S57) (a1 : Int) (r1 : List Int) (r2 : Int) (w : World)
    (h0 : Kd.C (Kd.int .i64) w A0 l0.length l0) (hc0 : l0.length ≤ c0) (h1 : Kd.C k47 w A1 l1.length l1) (hc1 : l1.length ≤ c1) (h2 : Kd.C k57 w A2 l2.length l2) (hc2 : l2.length ≤ c2) (hfa : Fates w)
    (h : lack_Broken.f l0 l1 l2 a1 = some (r1, r2)) :
    Calls Tryd.prog 26 #[.agg #[.slice A0 l0.length c0, .slice A1 l1.length c1, .slice A2 l2.length c2], .int .i64 a1] w fun e w' => ∃ v1_ : Value, e = .returned (.tuple #[v1_, .int .i64 r2]) ∧ Kd.V (Kd.int .i64) 3 w' w.heap.size (fun k_ => w.heap.size ≤ k_) v1_ r1 ∧ Below w.heap.size w w' := by
  unfold lack_Broken.f at h
  by_cases hf : Few l0 l1 l2
  case neg => rw [if_neg hf] at h; cases h
  rw [if_pos hf] at h
  have H0 := Aside0.mk h0
  have H1 := Aside0.mk h1
  have H2 := Aside0.mk h2
  have HFA := Aside0.mk hfa
  clear h0 h1 h2 hfa
  have hu26 := Tryd.underlying26
  have hu86 := Tryd.underlying86
  have W1 := below_alloc (Below.refl w.heap.size w) (.cells #[.slice A0 l0.length c0, .slice A1 l1.length c1, .slice A2 l2.length c2] 26)
  have HW1 := Aside0.mk W1
  clear W1
  have q := cell_book w A0 A1 A2 c0 c1 c2 l0 l1 l2
  have q0 := q.1
  have q1 := q.2.1
  have q2 := q.2.2
  clear q
  have hgw : IntKind.i64.wrap ((l2.length : Int) - 1) = (l2.length : Int) - 1 := by
    have h9 : (l2.length : Int) < 9000000000000000000 := hf.2.2
    rw [IntKind.wrap_i64]; omega
  by_cases c1_ : 0 ≤ a1 ∧ a1 ≤ (l2.length : Int) - 1
  · have hw1 : lack_within.f a1 0 ((l2.length : Int) - 1) = some true := by rw [within_f, decide_eq_true c1_]
    cases hb : okB l0 l1 l2 with
    | false =>
      rw [hb] at h
      cases h
      go_enter Tryd.func26, Tryd.ntmps26
      go_upto_region 1 with (fail)
      go_region_held3 (fun W => W.cell? ⟨w.heap.size, 0, none⟩ = some (.slice A0 l0.length c0) ∧ W.cell? ⟨w.heap.size, 1, none⟩ = some (.slice A1 l1.length c1) ∧ W.cell? ⟨w.heap.size, 2, none⟩ = some (.slice A2 l2.length c2)) (go_keep)
        (first
          | (go_at_call 50; (with_reducible refine (lack_within.calls _ 0 ((l2.length : Int) - 1) true _ hw1).mono ?_); rintro e w2 ⟨rfl, ⟨nd, rfl⟩⟩)
          | (go_at_call 46; (with_reducible refine (asked_bad A0 A1 A2 c0 c1 c2 l0 l1 l2 true _ (Kd.C_below H0.out (by repeat (first | (with_reducible exact HW1.out) | apply below_drew | apply pw_below_drewN))) hc0 (Kd.C_below H1.out (by repeat (first | (with_reducible exact HW1.out) | apply below_drew | apply pw_below_drewN))) hc1 (Kd.C_below H2.out (by repeat (first | (with_reducible exact HW1.out) | apply below_drew | apply pw_below_drewN))) hc2 hf hb).mono ?_); rintro e w4 ⟨rfl, hb4⟩; have HB4 := Aside0.mk (below_step (by repeat (first | (with_reducible exact HW1.out) | apply below_drew | apply pw_below_drewN)) hb4); have q0' := pw_cell_below hb4 (a := ⟨w.heap.size, 0, none⟩) (v := .slice A0 l0.length c0) q0; have q1' := pw_cell_below hb4 (a := ⟨w.heap.size, 1, none⟩) (v := .slice A1 l1.length c1) q1; have q2' := pw_cell_below hb4 (a := ⟨w.heap.size, 2, none⟩) (v := .slice A2 l2.length c2) q2; clear hb4))
      go_wp2
      refine bodyPost_ret (results_tmp2 rfl _ _ _) rfl ?_
      exact ⟨_, rfl, Kd.V_nil _ _ _ _ _, HB4.out⟩
    | true =>
      rw [hb] at h
      rw [if_pos rfl, if_pos c1_] at h
      obtain ⟨dl, rfl⟩ := Int.eq_ofNat_of_zero_le c1_.1
      obtain ⟨sh, hsh⟩ : ∃ sh, sh = (servF l0 l1 l2).2 := ⟨_, rfl⟩
      rw [← hsh] at h
      have HSH := Aside0.mk hsh
      clear hsh
      rw [Int.toNat_natCast] at h
      obtain ⟨Fc, hFc⟩ : ∃ Fc, Fc = comTo (l2.eraseIdx dl) (l2.length - 1) := ⟨_, rfl⟩
      rw [← hFc] at h
      cases h
      go_enter Tryd.func26, Tryd.ntmps26
      go_upto_region 1 with (fail)
      go_region_held3 (fun W => W.cell? ⟨w.heap.size, 0, none⟩ = some (.slice A0 l0.length c0) ∧ W.cell? ⟨w.heap.size, 1, none⟩ = some (.slice A1 l1.length c1) ∧ W.cell? ⟨w.heap.size, 2, none⟩ = some (.slice A2 l2.length c2)) (go_keep)
        (first
          | (go_at_call 50; (with_reducible refine (lack_within.calls _ 0 ((l2.length : Int) - 1) true _ hw1).mono ?_); rintro e w2 ⟨rfl, ⟨nd, rfl⟩⟩)
          | (go_at_call 46; (with_reducible refine (asked_ok A0 A1 A2 c0 c1 c2 l0 l1 l2 true _ (Kd.C_below H0.out (by repeat (first | (with_reducible exact HW1.out) | apply below_drew | apply pw_below_drewN))) hc0 (Kd.C_below H1.out (by repeat (first | (with_reducible exact HW1.out) | apply below_drew | apply pw_below_drewN))) hc1 (Kd.C_below H2.out (by repeat (first | (with_reducible exact HW1.out) | apply below_drew | apply pw_below_drewN))) hc2 hf hb rfl (Fates.below HFA.out (by repeat (first | (with_reducible exact HW1.out) | apply below_drew | apply pw_below_drewN)))).mono ?_); rintro e w4 ⟨g, mb, n, sv, rfl, hbk⟩; have HBK := Aside0.mk (hbk.lower (by repeat (first | (with_reducible exact HW1.out) | apply below_drew | apply pw_below_drewN))); have HX4 := Aside0.mk ((hbk.below.block w.heap.size (by simp)).trans (heap_alloc_new w (.cells #[.slice A0 l0.length c0, .slice A1 l1.length c1, .slice A2 l2.length c2] 26))); have q0' := pw_cell_below hbk.below (a := ⟨w.heap.size, 0, none⟩) (v := .slice A0 l0.length c0) q0; have q1' := pw_cell_below hbk.below (a := ⟨w.heap.size, 1, none⟩) (v := .slice A1 l1.length c1) q1; have q2' := pw_cell_below hbk.below (a := ⟨w.heap.size, 2, none⟩) (v := .slice A2 l2.length c2) q2; clear hbk))
      have FF := Aside0.mk (okB_facts hb)
      have hn5 : l0.length ≤ 5 := FF.out.2.1
      have hl10 : l1.length ≤ 10 := FF.out.2.2.2.1
      have hl6 : l2.length ≤ 6 := FF.out.2.2.2.2.1
      obtain ⟨As, cs, hsv, hcs, hV⟩ := R_cut HBK.out.rows
      have hls : (servF l0 l1 l2).2.length = l1.length := (servF_len l1 l2 hn5).2
      rw [hls] at hsv hcs hV
      subst hsv
      have HCS := Aside0.mk hcs
      have HV := Aside0.mk hV
      clear hV hcs
      have HOK := Aside0.mk (servF_ok hb).2
      rw [← HSH.out] at HV HOK hls
      have HG2 := Aside0.mk (show w4.heap[g]? = some (.cells (bookCells (.slice A0 l0.length c0) (.slice A1 l1.length c1) (.slice A2 l2.length c2) (servF l0 l1 l2).1 mb (.slice As l1.length cs)) 86 (0, 0)) from HBK.out.cells)
      have HL2 := Aside0.mk HBK.out.below
      have HC9 := Aside0.mk (show Kd.C k49 w4 As l1.length sh by rw [← hls]; exact (Kd.V_reads' HV.out).2.2)
      have HM2 := Aside0.mk HBK.out.map
      have hn1000 := HBK.out.small
      have hgw0 := HBK.out.new
      clear HBK q0 q1 q2 q0' q1' q2' hgw hw1
      have PG := Aside0.mk ((blk_cell HG2.out 9).trans (show _ = some (Value.slice As l1.length cs) from rfl))
      have PX2 := Aside0.mk ((blk_cell HX4.out 2).trans (show _ = some (Value.slice A2 l2.length c2) from rfl))
      have PX1 := Aside0.mk ((blk_cell HX4.out 1).trans (show _ = some (Value.slice A1 l1.length c1) from rfl))
      have hdl : dl < l2.length := by omega
      obtain ⟨ad2, e2, d0, d1, d2, d3, d4⟩ := at_T57 (Kd.C_below H2.out HL2.out) dl (by omega) (by omega)
      clear d0 d1 d2 d3 d4
      subst e2
      have HFC := Aside0.mk hFc
      clear hFc
      have y2 := PX2.out
      go_wp2_with (fail)
      refine (clone24_calls ad2 c2 l2.length l2 w4 rfl (Kd.C_below H2.out HL2.out) (by omega) (by omega)).mono ?_
      rintro e w5 ⟨v, rfl, hR, hb5⟩
      have hC5 := (Kd.R_reads hR)
      obtain ⟨_, inner, ⟨hli, ho⟩, hri⟩ := hR
      rcases ho with ⟨_, h0⟩ | ⟨blk, cap, cur, rfl, hbk, hrow, hcp1, hcp2, hcp3, hcp4⟩
      · omega
      obtain ⟨A5, c5, hv5, hle5, hC5⟩ := hC5
      cases hv5
      unfold maxLen at hcp2
      have HD62 := Aside0.mk (delete62_calls blk cap dl l2.length l2 w5 cur rfl hrow hcp3 hC5 hcp1 hcp2 hdl hl6)
      have HBK5 := Aside0.mk hbk
      have HB5 := Aside0.mk hb5
      have HCP := Aside0.mk hcp1
      clear hC5 hb5 hri hli hcp1 hcp2 hcp3 hcp4 y2 hrow hbk hle5
      go_wp2_with (fail)
      refine HD62.out.mono ?_
      rintro e w6 ⟨rfl, hC6, hb6⟩
      have HB6 := Aside0.mk (HB5.out.trans (hb6.mono HBK5.out))
      have hel : (l2.eraseIdx dl).length = l2.length - 1 := by rw [List.length_eraseIdx, if_pos hdl]
      have hwc := with_calls g mb A0 A1 (some ad2) As l0.length c0 l1.length c1 l2.length c2 l1.length cs (servF l0 l1 l2).1 (some ⟨blk, 0, none⟩) cap (l2.eraseIdx dl) w6 (blk_below HG2.out HB6.out) (by rw [hel]; exact hC6) (by rw [hel]; exact Nat.le_trans (Nat.sub_le _ _) HCP.out) (erase_ok hb dl) (by omega)
      rw [hel, ← HFC.out] at hwc
      clear hC6 hb6 HD62 hel
      go_wp2_with (fail)
      refine hwc.mono ?_
      rintro e w7 ⟨g2, mb2, n2, rfl, hg2, hcells, hmap, hn2, hb7⟩
      have HC7 := Aside0.mk hcells
      have HM7 := Aside0.mk hmap
      have HB7 := Aside0.mk (below_step HB6.out hb7)
      clear hwc hcells hmap hb7
      have p9 := Aside0.mk (pw_cell_below HB7.out PG.out)
      have p1 := Aside0.mk (pw_cell_below HB7.out PX1.out)
      have HC97 := Aside0.mk (Kd.C_below HC9.out HB7.out)
      have HKC := Aside0.mk (show ∀ j : Nat, j < l1.length → ∀ W, Below w7.heap.size w7 W → Calls Tryd.prog 58 #[.pointer (some ⟨g2, 0, none⟩), .int .i64 (rd_T47 l1 j).f1, .slice As (j + 1) cs] W fun e w' => e = .returned (.bool (keptF l1 (rd_T47 l1 j).f1 (sh.take (j + 1)) Fc)) ∧ Below W.heap.size W w' from fun j hj W hW => by
        have hlt : (sh.take (j + 1)).length = j + 1 := by rw [List.length_take, hls]; omega
        have hln := okB_line hb hj
        have hcs := HCS.out
        unfold okLine at hln
        refine kept_calls' g2 mb2 n2 (.slice A0 l0.length c0) (.slice (some ⟨blk, 0, none⟩) (l2.length - 1) cap) (.slice As l1.length cs) A1 c1 l1 (servF l0 l1 l2).1 Fc (rd_T47 l1 j).f1 As cs (j + 1) (sh.take (j + 1)) W hlt.symm (blk_below HC7.out hW) (SpotMap.below HM7.out hW)
          (Kd.C_below (Kd.C_below H1.out (below_step HL2.out HB7.out)) hW) hc1 (Kd.C_below (Kd.C_take (by rw [hls]; exact HC97.out) (by omega)) hW) (by omega) (by omega) (by omega) (fun s hs => by have := HOK.out s (List.mem_of_mem_take hs); unfold OkShare at this; omega) (by omega))
      have y9 := p9.out
      clear hc0 hc1 hc2 hf
      go_wp2_with (fail)
      clear y9
      go_loopw [9, 40] (fun v i wr => ∃ j : Nat, j ≤ l1.length ∧ i = .int .i64 j ∧ Aside0 (Kd.R (Kd.int .i64) 3 wr w7.heap.size (fun _ => True) v (brokF l1 sh Fc j)) ∧ Aside0 (Below w7.heap.size w7 wr)) (fun _ i _ => l1.length - (intOf i).toNat)
      case atStart => exact ⟨0, by omega, rfl, ⟨Kd.R_nil _ _ _ _ _⟩, ⟨Below.refl _ _⟩⟩
      case round =>
        obtain ⟨j, hj, rfl, HO, HC⟩ := hrel
        by_cases hjl : j < l1.length
        · obtain ⟨ad1, e1, k0, k1, k2, k3, k4⟩ := at_T47 (Kd.C_below H1.out (below_step HL2.out HB7.out)) j (by omega) (by omega)
          cases e1
          obtain ⟨ads, e3, s0, s1, s2, s3⟩ := at_T49 HC97.out j (by omega) (by omega)
          cases e3
          simp only [Int.toNat_natCast] at k0 k1 k2 k3 k4 s0 s1 s2 s3
          have t0 := pw_cell_below HC.out s0
          have t1 := pw_cell_below HC.out s1
          have t2 := pw_cell_below HC.out s2
          have t3 := pw_cell_below HC.out s3
          have hok : OkShare (rd_T49 sh j) := rdmem49 HOK.out (by omega)
          obtain ⟨⟨-, -⟩, ⟨-, -⟩, ⟨o2, o2'⟩, ⟨-, -⟩⟩ := hok
          have hO1 := HO.out
          have hle := brokF_len l1 sh Fc j
          have DB := Aside0.mk (show brokF l1 sh Fc (j + 1) = brokF l1 sh Fc j ++ (if (decide (0 < (rd_T49 sh (j : Nat)).f2) && !keptF l1 (rd_T47 l1 (j : Nat)).f1 (sh.take (j + 1)) Fc) = true then [(j : Int)] else []) from rfl)
          have HCA := Aside0.mk (below_alloc HC.out (Obj.cells #[.int .i64 (rd_T49 sh j).f0, .int .i64 (rd_T49 sh j).f1, .int .i64 (rd_T49 sh j).f2, .int .i64 (rd_T49 sh j).f3] 49))
          have HOA := Aside0.mk (Kd.R_alloc hO1 (Obj.cells #[.int .i64 (rd_T49 sh j).f0, .int .i64 (rd_T49 sh j).f1, .int .i64 (rd_T49 sh j).f2, .int .i64 (rd_T49 sh j).f3] 49))
          have HXA := Aside0.mk (heap_alloc_new wr (Obj.cells #[.int .i64 (rd_T49 sh j).f0, .int .i64 (rd_T49 sh j).f1, .int .i64 (rd_T49 sh j).f2, .int .i64 (rd_T49 sh j).f3] 49))
          clear hO1
          go_upto_region 9 with (fail)
          generalize wr.alloc (Obj.cells #[.int .i64 (rd_T49 sh j).f0, .int .i64 (rd_T49 sh j).f1, .int .i64 (rd_T49 sh j).f2, .int .i64 (rd_T49 sh j).f3] 49) = W8 at HCA HOA HXA ⊢
          have z2 := (blk_cell HXA.out 2).trans (show _ = some (Value.int .i64 (rd_T49 sh j).f2) from rfl)
          clear t0 t1 t2 t3 s0 s1 s2 s3 k0 k2 k3 k4
          have m1 := pw_cell_below HCA.out k1
          have m2 := pw_cell_below HCA.out p1.out
          have m9 := pw_cell_below HCA.out p9.out
          clear k1
          by_cases d : 0 < (rd_T49 sh j).f2
          · have dA : decide (0 < (rd_T49 sh j).f2) = true := decide_eq_true d
            have HK := Aside0.mk (HKC.out j hjl)
            have i1 : (j : Int) + 1 ≤ (cs : Int) := by have := HCS.out; omega
            have i2 : 0 ≤ (j : Int) + 1 := by omega
            cases hK : keptF l1 (rd_T47 l1 (j : Nat)).f1 (sh.take (j + 1)) Fc with
            | true =>
              rw [hK] at HK DB
              rw [dA] at DB
              simp only [Bool.not_true, Bool.and_false, Bool.false_eq_true, if_false, List.append_nil] at DB
              clear hK
              have hwj : IntKind.i64.wrap ((j : Int) + 1) = (j : Int) + 1 := by rw [IntKind.wrap_i64]; omega
              have htn : ((j : Int) + 1).toNat = j + 1 := by omega
              go_region_held3 (fun W => W.cell? ⟨wr.heap.size, 2, none⟩ = some (.int .i64 (rd_T49 sh j).f2) ∧ W.cell? ⟨w.heap.size, 1, none⟩ = some (.slice (some ad1) l1.length c1) ∧ W.cell? ⟨(ad1.add (j * 5)).block, (ad1.add (j * 5)).off + 1, none⟩ = some (.int .i64 (rd_T47 l1 j).f1) ∧ W.cell? ⟨g, 9, none⟩ = some (.slice (some ads) l1.length cs)) (go_keep)
                ((go_at_call 58; (with_reducible refine (HK.out _ (by repeat (first | (with_reducible exact HCA.out) | apply below_drew | apply pw_below_drewN))).mono ?_); rintro e w8 ⟨rfl, hb8⟩; have r2 := pw_cell_below hb8 (a := ⟨wr.heap.size, 2, none⟩) (v := .int .i64 (rd_T49 sh j).f2) z2; have r1 := pw_cell_below hb8 (a := ⟨w.heap.size, 1, none⟩) (v := .slice (some ad1) l1.length c1) m2; have r3 := pw_cell_below hb8 (a := ⟨(ad1.add (j * 5)).block, (ad1.add (j * 5)).off + 1, none⟩) (v := .int .i64 (rd_T47 l1 j).f1) m1; have r9 := pw_cell_below hb8 (a := ⟨g, 9, none⟩) (v := .slice (some ads) l1.length cs) m9; have HB8 := Aside0.mk (below_step (by repeat (first | (with_reducible exact HCA.out) | apply below_drew | apply pw_below_drewN)) hb8); have HO8 := Aside0.mk (Kd.R_below (by repeat (first | (with_reducible exact HOA.out) | apply Kd.R_drew | apply Kd.R_drewN)) hb8); clear hb8))
              all_goals
                clear hwj htn
                go_wp2
                go_roundw
                case rel => exact ⟨j + 1, by omega, by go_num, by rw [DB.out]; exact HO8, HB8⟩
                case measure => simp [intOf]; omega
            | false =>
              rw [hK] at HK DB
              rw [dA] at DB
              simp only [Bool.not_false, Bool.and_true, if_true] at DB
              clear hK
              have hwj : IntKind.i64.wrap ((j : Int) + 1) = (j : Int) + 1 := by rw [IntKind.wrap_i64]; omega
              have htn : ((j : Int) + 1).toNat = j + 1 := by omega
              go_region_held3 (fun W => W.cell? ⟨wr.heap.size, 2, none⟩ = some (.int .i64 (rd_T49 sh j).f2) ∧ W.cell? ⟨w.heap.size, 1, none⟩ = some (.slice (some ad1) l1.length c1) ∧ W.cell? ⟨(ad1.add (j * 5)).block, (ad1.add (j * 5)).off + 1, none⟩ = some (.int .i64 (rd_T47 l1 j).f1) ∧ W.cell? ⟨g, 9, none⟩ = some (.slice (some ads) l1.length cs)) (go_keep)
                ((go_at_call 58; (with_reducible refine (HK.out _ (by repeat (first | (with_reducible exact HCA.out) | apply below_drew | apply pw_below_drewN))).mono ?_); rintro e w8 ⟨rfl, hb8⟩; have r2 := pw_cell_below hb8 (a := ⟨wr.heap.size, 2, none⟩) (v := .int .i64 (rd_T49 sh j).f2) z2; have r1 := pw_cell_below hb8 (a := ⟨w.heap.size, 1, none⟩) (v := .slice (some ad1) l1.length c1) m2; have r3 := pw_cell_below hb8 (a := ⟨(ad1.add (j * 5)).block, (ad1.add (j * 5)).off + 1, none⟩) (v := .int .i64 (rd_T47 l1 j).f1) m1; have r9 := pw_cell_below hb8 (a := ⟨g, 9, none⟩) (v := .slice (some ads) l1.length cs) m9; have HB8 := Aside0.mk (below_step (by repeat (first | (with_reducible exact HCA.out) | apply below_drew | apply pw_below_drewN)) hb8); have HO8 := Aside0.mk (Kd.R_below (by repeat (first | (with_reducible exact HOA.out) | apply Kd.R_drew | apply Kd.R_drewN)) hb8); clear hb8))
              all_goals
                clear hwj htn
                go_wp2_with (at_builtin; refine Kd.R_append (Kd.int .i64) (w0 := w7) w7.heap.size rfl (.tmp 66) (.tmp 68) 22 3 (.int .i64 0) 8 rfl Tryd.underlying22 info3 rfl (by decide) (by omega) _ (brokF l1 sh Fc j) (j : Int) [.int .i64 (j : Int)] (fun _ => True) (fun _ => False) rfl rfl ?aP (fun _ hk => hk.elim) ?aF ?aO ?aB ?aS ?aL ?_; (case aP => exact rfl); (case aB => exact HB8.out); (case aF => exact (fun _ _ => trivial)); (case aO => exact HO8.out); (case aS => exact below_size HB8.out); (case aL => omega); intro v1 w1 ho1 hb1 hg1 hat1; rw [← DB.out] at ho1; have HO3 := Aside0.mk ho1; have HB3 := Aside0.mk hb1; clear ho1 hb1 hg1 hat1)
                go_roundw
                case rel => exact ⟨j + 1, by omega, by go_num, HO3, HB3⟩
                case measure => simp [intOf]; omega
          · have dA : decide (0 < (rd_T49 sh j).f2) = false := decide_eq_false d
            rw [dA, Bool.false_and, if_neg (by decide), List.append_nil] at DB
            go_quiet (fail)
            go_wp2
            go_roundw
            case rel => exact ⟨j + 1, by omega, by go_num, by rw [DB.out]; exact ⟨Kd.R_drewN HOA.out _⟩, ⟨pw_below_drewN HCA.out _⟩⟩
            case measure => simp [intOf]; omega
        · obtain rfl : j = l1.length := by omega
          obtain ⟨Av, cv, rfl, hcv, hVo⟩ := R_cut (Kd.R_lower HO.out (base' := w.heap.size) (below_size (below_step HL2.out HB7.out)))
          have HVO := Aside0.mk hVo
          have i1 : ((brokF l1 sh Fc l1.length).length : Int) ≤ (cv : Int) := by omega
          clear hVo hcv
          go_wp2
          refine bodyPost_ret (results_tmp2 rfl _ _ _) rfl ?_
          exact ⟨_, rfl, HVO.out, below_step HL2.out (below_step HB7.out HC.out)⟩
  · have hw1 : lack_within.f a1 0 ((l2.length : Int) - 1) = some false := by rw [within_f, decide_eq_false c1_]
    cases hb : okB l0 l1 l2 with
    | false =>
      rw [hb] at h
      cases h
      go_enter Tryd.func26, Tryd.ntmps26
      go_upto_region 1 with (fail)
      go_region_held3 (fun W => W.cell? ⟨w.heap.size, 0, none⟩ = some (.slice A0 l0.length c0) ∧ W.cell? ⟨w.heap.size, 1, none⟩ = some (.slice A1 l1.length c1) ∧ W.cell? ⟨w.heap.size, 2, none⟩ = some (.slice A2 l2.length c2)) (go_keep)
        (first
          | (go_at_call 50; (with_reducible refine (lack_within.calls _ 0 ((l2.length : Int) - 1) false _ hw1).mono ?_); rintro e w2 ⟨rfl, ⟨nd, rfl⟩⟩)
          | (go_at_call 46; (with_reducible refine (asked_bad A0 A1 A2 c0 c1 c2 l0 l1 l2 false _ (Kd.C_below H0.out (by repeat (first | (with_reducible exact HW1.out) | apply below_drew | apply pw_below_drewN))) hc0 (Kd.C_below H1.out (by repeat (first | (with_reducible exact HW1.out) | apply below_drew | apply pw_below_drewN))) hc1 (Kd.C_below H2.out (by repeat (first | (with_reducible exact HW1.out) | apply below_drew | apply pw_below_drewN))) hc2 hf hb).mono ?_); rintro e w4 ⟨rfl, hb4⟩; have HB4 := Aside0.mk (below_step (by repeat (first | (with_reducible exact HW1.out) | apply below_drew | apply pw_below_drewN)) hb4); have q0' := pw_cell_below hb4 (a := ⟨w.heap.size, 0, none⟩) (v := .slice A0 l0.length c0) q0; have q1' := pw_cell_below hb4 (a := ⟨w.heap.size, 1, none⟩) (v := .slice A1 l1.length c1) q1; have q2' := pw_cell_below hb4 (a := ⟨w.heap.size, 2, none⟩) (v := .slice A2 l2.length c2) q2; clear hb4))
      go_wp2
      refine bodyPost_ret (results_tmp2 rfl _ _ _) rfl ?_
      exact ⟨_, rfl, Kd.V_nil _ _ _ _ _, HB4.out⟩
    | true =>
      rw [hb] at h
      rw [if_pos rfl, if_neg c1_] at h
      cases h
      go_enter Tryd.func26, Tryd.ntmps26
      go_upto_region 1 with (fail)
      go_region_held3 (fun W => W.cell? ⟨w.heap.size, 0, none⟩ = some (.slice A0 l0.length c0) ∧ W.cell? ⟨w.heap.size, 1, none⟩ = some (.slice A1 l1.length c1) ∧ W.cell? ⟨w.heap.size, 2, none⟩ = some (.slice A2 l2.length c2)) (go_keep)
        (first
          | (go_at_call 50; (with_reducible refine (lack_within.calls _ 0 ((l2.length : Int) - 1) false _ hw1).mono ?_); rintro e w2 ⟨rfl, ⟨nd, rfl⟩⟩)
          | (go_at_call 46; (with_reducible refine (asked_not A0 A1 A2 c0 c1 c2 l0 l1 l2 false _ (Kd.C_below H0.out (by repeat (first | (with_reducible exact HW1.out) | apply below_drew | apply pw_below_drewN))) hc0 (Kd.C_below H1.out (by repeat (first | (with_reducible exact HW1.out) | apply below_drew | apply pw_below_drewN))) hc1 (Kd.C_below H2.out (by repeat (first | (with_reducible exact HW1.out) | apply below_drew | apply pw_below_drewN))) hc2 hf hb rfl).mono ?_); rintro e w4 ⟨rfl, hb4⟩; have HB4 := Aside0.mk (below_step (by repeat (first | (with_reducible exact HW1.out) | apply below_drew | apply pw_below_drewN)) hb4); have q0' := pw_cell_below hb4 (a := ⟨w.heap.size, 0, none⟩) (v := .slice A0 l0.length c0) q0; have q1' := pw_cell_below hb4 (a := ⟨w.heap.size, 1, none⟩) (v := .slice A1 l1.length c1) q1; have q2' := pw_cell_below hb4 (a := ⟨w.heap.size, 2, none⟩) (v := .slice A2 l2.length c2) q2; clear hb4))
      go_wp2
      refine bodyPost_ret (results_tmp2 rfl _ _ _) rfl ?_
      exact ⟨_, rfl, Kd.V_nil _ _ _ _ _, HB4.out⟩
end Go.Proofs.YtegpepnmnlockaaDoor.PL
namespace Go.Proofs.YtegpepnmnlockaaDoor.PL
open Go.RowKit Go.Proofs.YtegpepnmnlockaaDoorW.PrintWords Go.Proofs.YtegpepnmnlockaaDoorW.PrintLast Go.Proofs.YtegpepnmnlockaaDoorW.PrintMore
set_option linter.unusedVariables false
set_option linter.unusedSimpArgs false
theorem wrap_id {x : Int} (h1 : -1000000000 ≤ x) (h2 : x ≤ 1000000000) : wrap64 x = x := by unfold wrap64; omega
theorem surely_l0 (l0 : List Int) (l1 : List S47) (l2 : List S57) (hl : l2.length ≤ 6) (hd : ∀ y ∈ l2, OkDel y) (g d : Int) (hdd : d ≤ 100) : ∀ (m i k : Nat), i + m = l2.length → m + 1 ≤ k →
    wishbookref10_surely.l0 k g d (comTo l2 i g d) i l0 l1 l2 = some (comTo l2 l2.length g d)
  | 0, i, k + 1, hi, hk => by
    unfold wishbookref10_surely.l0
    rw [if_neg (by omega), show i = l2.length by omega]
  | m + 1, i, k + 1, hi, hk => by
    have ih := surely_l0 l0 l1 l2 hl hd g d hdd m (i + 1) k (by omega) (by omega)
    have hb := comTo_bd hd g d i (by omega)
    have hy := rdmem57 hd (i := i) (by omega)
    unfold OkDel at hy
    unfold wishbookref10_surely.l0
    rw [if_pos (by omega), if_pos (by omega), wrap_succ (by omega)]
    have e := ih
    rw [comTo] at e
    by_cases c1 : (rd_T57 l2 i).f0 = g
    · by_cases c2 : (rd_T57 l2 i).f1.f1 ≤ d
      · rw [if_pos ⟨c1, c2, hdd⟩] at e
        rw [if_pos c1, if_pos c2, wrap_id (by omega) (by omega)]
        exact e
      · rw [if_neg (fun h => c2 h.2.1), Int.add_zero] at e
        rw [if_pos c1, if_neg c2]
        exact e
    · rw [if_neg (fun h => c1 h.1), Int.add_zero] at e
      rw [if_neg c1]
      exact e
theorem surely_f (l0 : List Int) (l1 : List S47) (l2 : List S57) (hl : l2.length ≤ 6) (hd : ∀ y ∈ l2, OkDel y) (g d : Int) (hdd : d ≤ 100) (k : Nat) (hk : 7 ≤ k) : wishbookref10_surely.f k l0 l1 l2 g d = some (comTo l2 l2.length g d) :=
  surely_l0 l0 l1 l2 hl hd g d hdd l2.length 0 k (by omega) (by omega)
def f2s (sh : List S49) : List Int := sh.map (fun s => s.f2)
theorem f2s_len (sh : List S49) : (f2s sh).length = sh.length := List.length_map _
theorem rd_f2s (sh : List S49) (i : Nat) : rd (f2s sh) i = (rd_T49 sh i).f2 := by
  unfold rd rd_T49 f2s
  rw [Int.toNat_natCast, List.getD_eq_getElem?_getD, List.getD_eq_getElem?_getD, List.getElem?_map]
  cases sh[i]? <;> rfl
section
variable (l0 : List Int) (l1 : List S47) (l2 : List S57) (sh : List S49) (good : Int)
theorem kept_l1 (hl : l2.length ≤ 6) (hd : ∀ y ∈ l2, OkDel y) (h1 : sh.length ≤ l1.length) (h2 : sh.length ≤ 10) (hs : ∀ s ∈ sh, 0 ≤ s.f2 ∧ s.f2 ≤ 20) (d : Int) (hdd : d ≤ 100) : ∀ (m i k : Nat), i + m = sh.length → m + 9 ≤ k →
    wishbookref10_kept.l1 k good (f2s sh) d (dueTo l1 good d sh i) i l0 l1 l2 = if dueTo l1 good d sh sh.length > comTo l2 l2.length good d then some false else wishbookref10_kept.l0 (k - (m + 1)) good (f2s sh) (wrap64 (d + 1)) l0 l1 l2
  | 0, i, k + 1, hi, hk => by
    unfold wishbookref10_kept.l1
    rw [if_neg (by rw [f2s_len]; omega), surely_f l0 l1 l2 hl hd good d hdd k (by omega), Option.bind_some, show i = sh.length by omega]
    rfl
  | m + 1, i, k + 1, hi, hk => by
    have ih := kept_l1 hl hd h1 h2 hs d hdd m (i + 1) k (by omega) (by omega)
    rw [show k - (m + 1) = k + 1 - (m + 1 + 1) by omega] at ih
    have hb := dueTo_bd l1 good d sh hs i (by omega)
    have hy := rdmem49 hs (i := i) (by omega)
    unfold wishbookref10_kept.l1
    rw [if_pos (by rw [f2s_len]; omega), if_pos (by omega), if_pos (by omega), wrap_succ (by omega), rd_f2s]
    rw [← ih, dueTo]
    by_cases c1 : (rd_T47 l1 i).f1 = good
    · by_cases c2 : (rd_T47 l1 i).f3 ≤ d
      · rw [if_pos c1, if_pos c2, if_pos ⟨c1, c2⟩, wrap_id (by omega) (by omega)]
      · rw [if_pos c1, if_neg c2, if_neg (fun h => c2 h.2), Int.add_zero]
    · rw [if_neg c1, if_neg (fun h => c1 h.1), Int.add_zero]
theorem kept_l0 (hl : l2.length ≤ 6) (hd : ∀ y ∈ l2, OkDel y) (h1 : sh.length ≤ l1.length) (h2 : sh.length ≤ 10) (hs : ∀ s ∈ sh, 0 ≤ s.f2 ∧ s.f2 ≤ 20) : ∀ (e d k : Nat), d + e = 101 → 20 * e + 20 ≤ k →
    wishbookref10_kept.l0 k good (f2s sh) d l0 l1 l2 = some ((List.range' d e).all fun j => decide (dueTo l1 good j sh sh.length ≤ comTo l2 l2.length good j))
  | 0, d, k + 1, hi, hk => by
    unfold wishbookref10_kept.l0
    rw [if_neg (by omega)]
    rfl
  | e + 1, d, k + 1, hi, hk => by
    have ih := kept_l0 hl hd h1 h2 hs e (d + 1) (k - (sh.length + 1)) (by omega) (by omega)
    unfold wishbookref10_kept.l0
    have h := kept_l1 l0 l1 l2 sh good hl hd h1 h2 hs d (by omega) sh.length 0 k (by omega) (by omega)
    rw [if_pos (by omega)]
    refine Eq.trans h ?_
    rw [wrap_succ (by omega), ih, List.range'_succ, List.all_cons]
    by_cases c : dueTo l1 good d sh sh.length ≤ comTo l2 l2.length good d
    · rw [if_neg (by omega), decide_eq_true c, Bool.true_and]
    · rw [if_pos (by omega), decide_eq_false c, Bool.false_and]
theorem kept_f (hl : l2.length ≤ 6) (hd : ∀ y ∈ l2, OkDel y) (h1 : sh.length ≤ l1.length) (h2 : sh.length ≤ 10) (hs : ∀ s ∈ sh, 0 ≤ s.f2 ∧ s.f2 ≤ 20) (k : Nat) (hk : 2040 ≤ k) :
    wishbookref10_kept.f k l0 l1 l2 good (f2s sh) = some (keptF l1 good sh (comTo l2 l2.length)) := by
  have h := kept_l0 l0 l1 l2 sh good hl hd h1 h2 hs 101 0 k (by omega) (by omega)
  unfold keptF keptUpto
  rw [List.range_eq_range']
  exact h
end
theorem dueTo_cong (l1 : List S47) (good d : Int) (sh sh' : List S49) : ∀ i : Nat, (∀ j : Nat, j < i → (rd_T49 sh j).f2 = (rd_T49 sh' j).f2) → dueTo l1 good d sh i = dueTo l1 good d sh' i
  | 0, _ => rfl
  | i + 1, h => by rw [dueTo, dueTo, dueTo_cong l1 good d sh sh' i (fun j hj => h j (by omega)), h i (by omega)]
theorem dueTo_le (l1 : List S47) (good d : Int) (sh sh' : List S49) : ∀ i : Nat, (∀ j : Nat, j < i → (rd_T49 sh j).f2 ≤ (rd_T49 sh' j).f2) → dueTo l1 good d sh i ≤ dueTo l1 good d sh' i
  | 0, _ => Int.le_refl _
  | i + 1, h => by
    have := dueTo_le l1 good d sh sh' i (fun j hj => h j (by omega))
    have := h i (by omega)
    rw [dueTo, dueTo]
    split <;> omega
theorem keptF_le (l1 : List S47) (good : Int) (sh sh' : List S49) (F : Int → Int → Int) (hl : sh.length = sh'.length) (h : ∀ j : Nat, j < sh.length → (rd_T49 sh j).f2 ≤ (rd_T49 sh' j).f2) (hk : keptF l1 good sh' F = true) : keptF l1 good sh F = true := by
  unfold keptF keptUpto at *
  rw [List.all_eq_true] at *
  intro d hd
  have h1 := of_decide_eq_true (hk d hd)
  have h2 := dueTo_le l1 good d sh sh' sh.length h
  rw [← hl] at h1
  exact decide_eq_true (Int.le_trans h2 h1)
theorem rd_snoc49 (sh : List S49) (s : S49) : rd_T49 (sh ++ [s]) sh.length = s := by
  unfold rd_T49
  rw [Int.toNat_natCast, List.getD_eq_getElem?_getD, List.getElem?_append_right (Nat.le_refl _), Nat.sub_self]
  rfl
theorem rd_old49 (sh : List S49) (s : S49) {j : Nat} (h : j < sh.length) : rd_T49 (sh ++ [s]) j = rd_T49 sh j := by
  unfold rd_T49
  rw [Int.toNat_natCast, List.getD_eq_getElem?_getD, List.getD_eq_getElem?_getD, List.getElem?_append_left h]
/-- Can the list be kept with n pieces of the next line? -/
def keptN (l1 : List S47) (good : Int) (sh : List S49) (F : Int → Int → Int) (n : Nat) : Bool := keptF l1 good (sh ++ [⟨0, 0, (n : Int), 0⟩]) F
theorem keptN_mono {l1 : List S47} {good : Int} {sh : List S49} {F : Int → Int → Int} {m n : Nat} (h : m ≤ n) (hk : keptN l1 good sh F n = true) : keptN l1 good sh F m = true := by
  refine keptF_le l1 good _ _ F (by simp) (fun j hj => ?_) hk
  rw [List.length_append, List.length_singleton] at hj
  by_cases c : j < sh.length
  · rw [rd_old49 _ _ c, rd_old49 _ _ c]
    exact Int.le_refl _
  · obtain rfl : j = sh.length := by omega
    rw [rd_snoc49, rd_snoc49]
    dsimp only
    omega
theorem listedF_stop {l1 : List S47} {good : Int} {sh : List S49} {F : Int → Int → Int} {m : Nat} (h1 : m = 0 ∨ keptN l1 good sh F m = true) (h2 : keptN l1 good sh F (m + 1) = false) : ∀ n, m ≤ n → listedF l1 good sh F n = m
  | 0, h => by rw [listedF]; omega
  | n + 1, h => by
    rw [listedF]
    change (if keptN l1 good sh F (n + 1) = true then n + 1 else listedF l1 good sh F n) = _
    by_cases e : n + 1 = m
    · subst e
      rw [if_pos (h1.resolve_left (by omega))]
    · have hn : ¬ keptN l1 good sh F (n + 1) = true := fun hk => by
        have := keptN_mono (m := m + 1) (by omega) hk
        rw [h2] at this
        cases this
      rw [if_neg hn]
      exact listedF_stop h1 h2 n (by omega)
theorem listedF_all {l1 : List S47} {good : Int} {sh : List S49} {F : Int → Int → Int} {m : Nat} (h1 : m = 0 ∨ keptN l1 good sh F m = true) : listedF l1 good sh F m = m := by
  cases m with
  | zero => rfl
  | succ m =>
    rw [listedF]
    change (if keptN l1 good sh F (m + 1) = true then m + 1 else listedF l1 good sh F m) = _
    rw [if_pos (h1.resolve_left (by omega))]
theorem f2s_snoc (sh : List S49) (n : Nat) : f2s (sh ++ [(⟨0, 0, (n : Int), 0⟩ : S49)]) = f2s sh ++ [(n : Int)] := by simp [f2s]
end Go.Proofs.YtegpepnmnlockaaDoor.PL
namespace Go.Proofs.YtegpepnmnlockaaDoor.PL
open Go.RowKit Go.Proofs.YtegpepnmnlockaaDoorW.PrintWords Go.Proofs.YtegpepnmnlockaaDoorW.PrintLast Go.Proofs.YtegpepnmnlockaaDoorW.PrintMore
attribute [local go_sem] max2_int min2_int max_two min_two max_three min_three max_four min_four
set_option linter.unusedVariables false
set_option linter.unusedSimpArgs false
theorem With_f (l : List Int) (a : Int) (h : l.length ≤ 1000) : wishbookref00_With.f l a = some (l ++ [a]) := by
  unfold wishbookref00_With.f
  simp only [Option.bind_some, List.nil_append, List.length_nil]
  rw [if_pos (by omega), if_pos (by omega)]
/-- One line more is served. -/
def stepF (l1 : List S47) (F : Int → Int → Int) (k : Nat) (s : List Int × List S49) : List Int × List S49 := (left2F (rd_T47 l1 k) s.1, s.2 ++ [shareF l1 F (rd_T47 l1 k) s.1 s.2])
theorem serveF_snoc (l1 : List S47) (F : Int → Int → Int) : ∀ (d k : Nat) (s : List Int × List S49), serveF l1 F (d + 1) k s = stepF l1 F (k + d) (serveF l1 F d k s)
  | 0, k, s => rfl
  | d + 1, k, s => by
    have ih := serveF_snoc l1 F d (k + 1) (stepF l1 F k s)
    show serveF l1 F (d + 1) (k + 1) (stepF l1 F k s) = stepF l1 F (k + (d + 1)) (serveF l1 F d (k + 1) (stepF l1 F k s))
    rw [ih, show k + 1 + d = k + (d + 1) by omega]
/-- Block bl holds the first n numbers of a list. -/
def LeftAt (w : World) (bl n cap : Nat) (L : List Int) : Prop := ∃ cur : Array Value, w.heap[bl]? = some (.cells cur 3 (0, 0)) ∧ cur.size = cap ∧ n ≤ cap ∧ cap ≤ maxLen ∧ cur.toList.take n = nums .i64 (L.take n)
theorem LeftAt.cell {w : World} {bl n cap : Nat} {L : List Int} (h : LeftAt w bl n cap L) (hL : n ≤ L.length) {i : Nat} (hi : i < n) : w.cell? ⟨bl, i, none⟩ = some (.int .i64 (rd L i)) ∧ w.frozen? ⟨bl, i, none⟩ = false := by
  obtain ⟨cur, hb, hs, hn, hm, ht⟩ := h
  refine ⟨(blk_cell hb i).trans ?_, blk_frozen hb i⟩
  have e : cur.toList[i]? = (nums .i64 (L.take n))[i]? := by rw [← ht, List.getElem?_take, if_pos hi]
  rw [Array.getElem?_toList] at e
  rw [e]
  unfold nums rd
  rw [List.getElem?_map, List.getElem?_take, if_pos hi, Int.toNat_natCast, List.getD_eq_getElem?_getD, List.getElem?_eq_getElem (by omega)]
  rfl
theorem LeftAt.put {w : World} {bl n cap : Nat} {L : List Int} (h : LeftAt w bl n cap L) (i : Nat) (v : Int) : LeftAt (w.setCell ⟨bl, i, none⟩ (.int .i64 v)) bl n cap (L.set i v) := by
  obtain ⟨cur, hb, hs, hn, hm, ht⟩ := h
  refine ⟨_, blk_put hb i _ rfl, by simp [hs], hn, hm, ?_⟩
  rw [Array.toList_setIfInBounds, List.take_set, ht, List.take_set]
  simp [nums]
theorem LeftAt.at {w w' : World} {bl n cap : Nat} {L : List Int} (h : LeftAt w bl n cap L) (e : w'.heap[bl]? = w.heap[bl]?) : LeftAt w' bl n cap L := by
  obtain ⟨cur, hb, h2⟩ := h
  exact ⟨cur, e.trans hb, h2⟩
theorem LeftAt.lt {w : World} {bl n cap : Nat} {L : List Int} (h : LeftAt w bl n cap L) : bl < w.heap.size := by
  obtain ⟨cur, hb, h2⟩ := h
  exact blk_lt hb
theorem LeftAt.below {w w' : World} {bl n cap : Nat} {L : List Int} (h : LeftAt w bl n cap L) (hb : Below w.heap.size w w') : LeftAt w' bl n cap L := h.at (hb.block _ h.lt)
theorem LeftAt.R {w : World} {base bl n cap : Nat} {L : List Int} (h : LeftAt w bl n cap L) (hL : n ≤ L.length) (hb : base ≤ bl) (ok : Nat → Prop) (hok : ok bl) : Kd.R (Kd.int .i64) 3 w base ok (.slice (some ⟨bl, 0, none⟩) n cap) (L.take n) := by
  obtain ⟨cur, hb', hs, hn, hm, ht⟩ := h
  have hl : (L.take n).length = n := by rw [List.length_take]; omega
  refine flatI.R (v := .slice (some ⟨bl, 0, none⟩) n cap) ?_ ok (fun k hk => by simp [Value.ownBlock] at hk; subst hk; exact hok)
  rw [hl]
  have e : (L.take n).flatMap (fun x => [Value.int .i64 x]) = nums .i64 (L.take n) := by
    unfold nums
    rw [List.map_eq_flatMap]
  refine ⟨by rw [flatI.olds, hl], Or.inr ⟨bl, cap, cur, rfl, hb, hb', hn, hm, by rw [hs]; exact (Nat.mul_one _).symm, ?_⟩⟩
  rw [e, ← ht]
  exact congrArg (fun m => cur.toList.take m) (Nat.mul_one n)
theorem R_own {α : Type} {d : Kd α} {e base : Nat} {ok : Nat → Prop} {w : World} {u : Value} {ys : List α} (hE : d.E = []) (h : d.R e w base ok u ys) {k : Nat} (hk : u.ownBlock = some k) : ∃ cells, w.heap[k]? = some (.cells cells e (0, 0)) := by
  obtain ⟨_, _, _, q, hq, c, hc⟩ := (Kd.R_bound h).1 k hk
  rw [hE, List.mem_singleton] at hq
  subst hq
  exact ⟨c, hc⟩
/-- Two rows of different types: what is appended to the one leaves the other as it was. -/
theorem R_two {α β : Type} {d : Kd α} {d2 : Kd β} {e e2 base base2 : Nat} {ok ok2 : Nat → Prop} {w w1 : World} {v u : Value} {xs : List α} {ys : List β} (hE2 : d2.E = []) (hE : d.E = []) (hne : e ≠ e2) (h : d.R e w base ok v xs) (h2 : d2.R e2 w base2 ok2 u ys) (hg : w.grownBy w1 u.ownBlock) : d.R e w1 base ok v xs := by
  refine Kd.R_grown2 h hE hg fun k hu hh => ?_
  obtain ⟨c, hc⟩ := R_own hE2 h2 hu
  obtain ⟨c', hc'⟩ := R_own hE h hh.symm
  rw [hc] at hc'
  injection hc' with hc'
  injection hc' with _ h3
  exact hne h3.symm
theorem serve_facts {l0 : List Int} {l1 : List S47} {l2 : List S57} (hb : okB l0 l1 l2 = true) (F : Int → Int → Int) : ∀ k : Nat, k ≤ l1.length → (serveF l1 F k 0 (left0 l0, [])).1.length = 5 ∧ (serveF l1 F k 0 (left0 l0, [])).2.length = k ∧ (∀ y ∈ (serveF l1 F k 0 (left0 l0, [])).1, 0 ≤ y ∧ y ≤ 50) ∧ (∀ y ∈ (serveF l1 F k 0 (left0 l0, [])).2, OkShare y)
  | 0, _ => ⟨left0_len (okB_facts hb).2.1, rfl, left0_ok (okB_facts hb).2.2.2.2.2.1, fun y hy => by simp [serveF] at hy⟩
  | k + 1, hk => by
    obtain ⟨e1, e2, e3, e4⟩ := serve_facts hb F k (by omega)
    have hs := serveF_snoc l1 F k 0 (left0 l0, [])
    rw [Nat.zero_add] at hs
    have hx : OkLine (rd_T47 l1 k) := okLine_of (okB_facts hb).2.1 (okB_line hb hk)
    obtain ⟨o1, o2, o3⟩ := shareF_ok l1 F (serveF l1 F k 0 (left0 l0, [])).2 hx e3
    rw [hs]
    unfold stepF
    refine ⟨?_, by rw [List.length_append, e2]; rfl, o3, fun y hy => ?_⟩
    · show (left2F _ _).length = 5
      rw [left2F, leftOf_len, left1F, List.length_set, e1]
    · rcases List.mem_append.1 hy with hy | hy
      · exact e4 y hy
      · rw [List.mem_singleton.1 hy]; exact o1
def wishbookref10_served.f (l0 : List Int) (l1 : List S47) (l2 : List S57) : Option (List S49 × List Int) :=
  if Few l0 l1 l2 then (if okB l0 l1 l2 = true then some ((servF l0 l1 l2).2, (servF l0 l1 l2).1.take l0.length) else none) else none
set_option maxHeartbeats 8000000 in
set_option maxRecDepth 100000 in
theorem wishbookref10_served.calls (A0 : Option Addr) (c0 : Nat) (l0 : List Int) (A1 : Option Addr) (c1 : Nat) (l1 : List S47) (A2 : Option Addr) (c2 : Nat) (l2 : List S57) (r1 : List S49) (r2 : List Int) (w : World)
    (h0 : Kd.C (Kd.int .i64) w A0 l0.length l0) (hc0 : l0.length ≤ c0) (h1 : Kd.C k47 w A1 l1.length l1) (hc1 : l1.length ≤ c1) (h2 : Kd.C k57 w A2 l2.length l2) (hc2 : l2.length ≤ c2)
    (h : wishbookref10_served.f l0 l1 l2 = some (r1, r2)) :
    Calls Tryd.prog 48 #[.agg #[.slice A0 l0.length c0, .slice A1 l1.length c1, .slice A2 l2.length c2]] w fun e w' => ∃ v0_ v1_ : Value, e = .returned (.tuple #[v0_, v1_]) ∧
      Kd.R k49 49 w' w.heap.size (fun _ => True) v0_ r1 ∧ Kd.R (Kd.int .i64) 3 w' w.heap.size (fun _ => True) v1_ r2 ∧ Below w.heap.size w w' := by
  unfold wishbookref10_served.f at h
  by_cases hf : Few l0 l1 l2
  case neg => rw [if_neg hf] at h; cases h
  rw [if_pos hf] at h
  cases hb : okB l0 l1 l2 with
  | false => rw [hb] at h; cases h
  | true =>
    rw [hb, if_pos rfl] at h
    obtain ⟨F, hF⟩ : ∃ F, F = comTo l2 l2.length := ⟨_, rfl⟩
    have hserv : servF l0 l1 l2 = serveF l1 F l1.length 0 (left0 l0, []) := by rw [hF]; rfl
    rw [hserv] at h
    obtain ⟨rfl, rfl⟩ := Prod.mk.inj (Option.some.inj h)
    clear h hserv
    have FF := Aside0.mk (okB_facts hb)
    have hn1 : 1 ≤ l0.length := FF.out.1
    have hn5 : l0.length ≤ 5 := FF.out.2.1
    have hl10 : l1.length ≤ 10 := FF.out.2.2.2.1
    have hl6 : l2.length ≤ 6 := FF.out.2.2.2.2.1
    have HOKL := Aside0.mk (show ∀ x ∈ l1, OkLine x from fun x hx => okLine_of hn5 (FF.out.2.2.2.2.2.2.1 x hx))
    have HOKD := Aside0.mk (show ∀ y ∈ l2, OkDel y from fun y hy => okDel_of hn5 (FF.out.2.2.2.2.2.2.2 y hy))
    have HF := Aside0.mk hF
    have HHB := Aside0.mk hb
    have H0 := Aside0.mk h0
    have H1 := Aside0.mk h1
    have H2 := Aside0.mk h2
    have HC := Aside0.mk (And.intro hc0 (And.intro hc1 hc2))
    have HSV := Aside0.mk (show ∀ k : Nat, k ≤ l1.length → (serveF l1 F k 0 (left0 l0, [])).1.length = 5 ∧ (serveF l1 F k 0 (left0 l0, [])).2.length = k ∧ (∀ y ∈ (serveF l1 F k 0 (left0 l0, [])).1, 0 ≤ y ∧ y ≤ 50) ∧ (∀ y ∈ (serveF l1 F k 0 (left0 l0, [])).2, OkShare y) from serve_facts hb F)
    clear h0 h1 h2 hc0 hc1 hc2 hb hF hf
    have hu26 := Tryd.underlying26
    have hu47 := Tryd.underlying47
    have hu49 := Tryd.underlying49
    have HW1 := Aside0.mk (below_alloc (Below.refl w.heap.size w) (.cells #[.slice A0 l0.length c0, .slice A1 l1.length c1, .slice A2 l2.length c2] 26))
    have HX1 := Aside0.mk (heap_alloc_new w (.cells #[.slice A0 l0.length c0, .slice A1 l1.length c1, .slice A2 l2.length c2] 26))
    go_enter Tryd.func48, Tryd.ntmps48
    go_upto_region 2 with (fail)
    generalize w.alloc (Obj.cells #[Value.slice A0 l0.length c0, .slice A1 l1.length c1, .slice A2 l2.length c2] 26) = W1 at HW1 HX1 ⊢
    have q0 := (blk_cell HX1.out 0).trans (show _ = some (Value.slice A0 l0.length c0) from rfl)
    go_wp2_with (first | ((with_reducible refine gate_dst (N := 11) rfl ?_); refine Kd.R_lit (Kd.int .i64) _ 3 ?hg (N := 11) ?hd (xs := ([] : List Int)) (inner := []) (ok := fun _ => True) (okp := fun _ => True) ?hr ?hp (fun _ hk => hk) trivial (Below.refl _ _) (Nat.le_refl _) (by simp) ?_; (case hd => rfl); (case hg => rfl); (case hr => first | (go_simp; done) | (go_simp; rfl)); (case hp => exact (Reps.none _ _)); intro v2 w2 ho2 hb2 hg_ hnew_; have HO2 := Aside0.mk ho2; have HB2 := Aside0.mk hb2; have q0' := pw_cell_below hb2 q0; clear ho2 hb2 hg_ hnew_) | ((with_reducible refine gate_builtin (b := .append) (xs := #[.tmp 11, .tmp 13]) rfl ?_); at_builtin; refine Kd.R_append_rows (Kd.int .i64) (w0 := W1) W1.heap.size rfl (.tmp 11) (.tmp 13) 22 3 (.int .i64 0) 8 rfl Tryd.underlying22 info3 rfl (by decide) (by omega) v2 [] l0 _ _ _ (fun _ => True) (fun _ => False) rfl rfl ?aO ?aR (fun _ _ h => h) (fun _ h => h.elim) ?aF ?aB ?aS ?aL ?_; (case aR => exact Kd.C_below (Kd.C_below H0.out HW1.out) HB2.out); (case aB => exact HB2.out); (case aF => exact (fun _ _ => trivial)); (case aO => exact HO2.out); (case aS => exact (below_size HB2.out)); (case aL => simp only [List.length_nil]; omega); intro v3 w3 ho3 hb3 hg3 hat3; rw [List.nil_append] at ho3; have HO3 := Aside0.mk ho3; have HB3 := Aside0.mk hb3; clear ho3 hb3 hg3 hat3))
    have hne : l0 ≠ [] := fun e => by rw [e] at hn1; simp at hn1
    obtain ⟨bl, cap, cur, rfl, hbl, hcur, hcp1, hcp2, hcp3, hcp4⟩ := R_row HO3.out hne
    have HLA := Aside0.mk (show LeftAt w3 bl l0.length cap (left0 l0) from ⟨cur, hcur, hcp3, hcp1, hcp2, by rw [hcp4, left0, List.take_left]⟩)
    have HBL := Aside0.mk hbl
    clear HO3 HO2 HB2 q0 q0' hcur hcp1 hcp2 hcp3 hcp4 hne hbl
    have hk1 := HC.out.2.1
    have PX1 := Aside0.mk ((blk_cell HX1.out 1).trans (show _ = some (Value.slice A1 l1.length c1) from rfl))
    have PX0 := Aside0.mk ((blk_cell HX1.out 0).trans (show _ = some (Value.slice A0 l0.length c0) from rfl))
    have PX2 := Aside0.mk ((blk_cell HX1.out 2).trans (show _ = some (Value.slice A2 l2.length c2) from rfl))
    go_loopw [4, 6, 7] (fun v4 v6 v7 wr => ∃ k : Nat, k ≤ l1.length ∧ v7 = .int .i64 k ∧ Aside0 (LeftAt wr bl l0.length cap (serveF l1 F k 0 (left0 l0, [])).1) ∧ Aside0 (Kd.R k49 49 wr W1.heap.size (fun _ => True) v4 (serveF l1 F k 0 (left0 l0, [])).2) ∧ Aside0 (Kd.R (Kd.int .i64) 3 wr W1.heap.size (fun q => q ≠ bl) v6 (f2s (serveF l1 F k 0 (left0 l0, [])).2)) ∧ Aside0 (Below W1.heap.size W1 wr)) (fun _ _ i _ => l1.length - (intOf i).toNat)
    case atStart => exact ⟨0, by omega, rfl, HLA, ⟨Kd.R_nil _ _ _ _ _⟩, ⟨Kd.R_nil _ _ _ _ _⟩, HB3⟩
    case round =>
      obtain ⟨k, hk, rfl, HL, HO, HI, HB⟩ := hrel
      obtain ⟨wo, rfl⟩ : ∃ wo : World, wo = wr := ⟨_, rfl⟩
      by_cases hkl : k < l1.length
      · have hstep := serveF_snoc l1 F k 0 (left0 l0, [])
        rw [Nat.zero_add] at hstep
        have hsv := HSV.out k hk
        obtain ⟨L, hL⟩ : ∃ L, L = (serveF l1 F k 0 (left0 l0, [])).1 := ⟨_, rfl⟩
        obtain ⟨sh, hsh⟩ : ∃ sh, sh = (serveF l1 F k 0 (left0 l0, [])).2 := ⟨_, rfl⟩
        unfold stepF at hstep
        rw [← hL, ← hsh] at hstep hsv
        rw [← hL] at HL
        rw [← hsh] at HO HI
        clear hL hsh
        have HSTEP := Aside0.mk hstep
        clear hstep
        obtain ⟨hL5, hshk, hLb, hshb⟩ := hsv
        obtain ⟨Ai, ci, rfl⟩ := Kd.R_slice HI.out
        have hci := (Kd.R_reads' HI.out).2.1
        have HCI := Aside0.mk hci
        clear hci
        have HSK := Aside0.mk hshk
        have HLB := Aside0.mk hLb
        have HSB := Aside0.mk hshb
        have HLX := Aside0.mk (okB_line HHB.out hkl)
        obtain ⟨x, hx⟩ : ∃ x, x = rd_T47 l1 k := ⟨_, rfl⟩
        obtain ⟨ad1, e1, k0, k1, k2, k3, k4⟩ := at_T47 (Kd.C_below (Kd.C_below H1.out HW1.out) HB.out) k (by omega) (by omega)
        cases e1
        rw [← hx] at k0 k1 k2 k3 k4 HLX HSTEP
        simp only [Int.toNat_natCast] at k0 k1 k2 k3 k4
        clear hshk hLb hshb hx
        have y1 := pw_cell_below HB.out PX1.out
        have HBA := Aside0.mk (below_alloc (below_alloc HB.out (Obj.cells #[.int .i64 x.f0, .int .i64 x.f1, .int .i64 x.f2, .int .i64 x.f3, .int .i64 x.f4] 47)) (Obj.cells #[.int .i64 0, .int .i64 0, .int .i64 0, .int .i64 0] 49))
        have HLA2 := Aside0.mk (HL.out.below (below_alloc (below_alloc (Below.refl _ _) (Obj.cells #[.int .i64 x.f0, .int .i64 x.f1, .int .i64 x.f2, .int .i64 x.f3, .int .i64 x.f4] 47)) (Obj.cells #[.int .i64 0, .int .i64 0, .int .i64 0, .int .i64 0] 49)))
        have HOT : Aside0 (Kd.R k49 49 wo W1.heap.size (fun q => True ∧ q ≠ bl) u4 sh) := ⟨by obtain ⟨curL, hcurL, -⟩ := HL.out; exact Kd.R_types HO.out hcurL (by decide)⟩
        have HOA := Aside0.mk (Kd.R_alloc (Kd.R_alloc (Kd.R_mono (Kd.R_bound HOT.out) (ok' := fun q => q ≠ bl ∧ q < wo.heap.size) (fun _ h => ⟨h.1.2, h.2.2.1⟩)) (Obj.cells #[.int .i64 x.f0, .int .i64 x.f1, .int .i64 x.f2, .int .i64 x.f3, .int .i64 x.f4] 47)) (Obj.cells #[.int .i64 0, .int .i64 0, .int .i64 0, .int .i64 0] 49))
        have HIA := Aside0.mk (Kd.R_alloc (Kd.R_alloc (Kd.R_mono (Kd.R_bound HI.out) (ok' := fun q => q ≠ bl ∧ q < wo.heap.size) (fun _ h => ⟨h.1, h.2.2.1⟩)) (Obj.cells #[.int .i64 x.f0, .int .i64 x.f1, .int .i64 x.f2, .int .i64 x.f3, .int .i64 x.f4] 47)) (Obj.cells #[.int .i64 0, .int .i64 0, .int .i64 0, .int .i64 0] 49))
        have HXA := Aside0.mk (blk_alloc (heap_alloc_new wo (Obj.cells #[.int .i64 x.f0, .int .i64 x.f1, .int .i64 x.f2, .int .i64 x.f3, .int .i64 x.f4] 47)) (Obj.cells #[.int .i64 0, .int .i64 0, .int .i64 0, .int .i64 0] 49))
        have HSA := Aside0.mk (heap_alloc_two wo (Obj.cells #[.int .i64 x.f0, .int .i64 x.f1, .int .i64 x.f2, .int .i64 x.f3, .int .i64 x.f4] 47) (Obj.cells #[.int .i64 0, .int .i64 0, .int .i64 0, .int .i64 0] 49))
        go_upto_region 9 with (fail)
        clear k1 k2 k3 k4 k0
        generalize (wo.alloc (Obj.cells #[.int .i64 x.f0, .int .i64 x.f1, .int .i64 x.f2, .int .i64 x.f3, .int .i64 x.f4] 47)).alloc (Obj.cells #[.int .i64 0, .int .i64 0, .int .i64 0, .int .i64 0] 49) = W2 at HBA HLA2 HOA HIA HXA HSA ⊢
        obtain ⟨⟨-, -⟩, ⟨a1, a2⟩, ⟨a3, a4⟩, ⟨a5, a6⟩, ⟨a7, a8⟩, a9⟩ := HLX.out
        obtain ⟨gi, hgi⟩ := Int.eq_ofNat_of_zero_le a1
        have hgn : gi < l0.length := by omega
        have hbx : bl < wo.heap.size := HL.out.lt
        have cl := HLA2.out.cell (by omega) hgn
        have cx1 := (blk_cell HXA.out 1).trans (show _ = some (Value.int .i64 gi) from by rw [← hgi]; rfl)
        have cx2 := (blk_cell HXA.out 2).trans (show _ = some (Value.int .i64 x.f2) from rfl)
        have fs0 := blk_frozen HSA.out 0
        have cs0 := (blk_cell HSA.out 0).trans (show _ = some (Value.int .i64 0) from rfl)
        obtain ⟨cl, fl⟩ := cl
        have hrd := rd_bd HLB.out gi
        have hm0 := sentF_bd (x := x) HLB.out (by omega) a1
        have HM0 := Aside0.mk (show sentF x L = mn x.f2 (rd L gi) by unfold sentF; rw [hgi])
        rw [HM0.out, hgi] at hm0
        have HGI := Aside0.mk hgi
        clear hgi a1 a2 a9 y1
        have g0 : (0 : Int) ≤ (gi : Int) := by omega
        have g1 : (gi : Int) < (l0.length : Int) := by omega
        go_upto_region 11 with (fail)
        generalize hm0e : (if rd L (gi : Int) < x.f2 then rd L (gi : Int) else x.f2) = m0
        have hm0f : mn x.f2 (rd L gi) = m0 := hm0e
        rw [hm0f] at HM0 hm0
        clear hm0e hm0f
        have hne1 : bl ≠ wo.heap.size + 1 := by omega
        have HSB1 := Aside0.mk (show W1.heap.size ≤ wo.heap.size from below_size HB.out)
        have HB3' := Aside0.mk (HBA.out.setCell (p := ⟨wo.heap.size + 1, 0, none⟩) (Nat.le_succ_of_le HSB1.out) (Value.int .i64 m0))
        have HL3 := Aside0.mk (HLA2.out.at (Below.heap_setCell W2 ⟨wo.heap.size + 1, 0, none⟩ (Value.int .i64 m0) bl hne1))
        have HO3 := Aside0.mk (Kd.R_far (p := ⟨wo.heap.size + 1, 0, none⟩) HOA.out (fun q hq => by dsimp only; omega) (Value.int .i64 m0))
        have HI3 := Aside0.mk (Kd.R_far (p := ⟨wo.heap.size + 1, 0, none⟩) HIA.out (fun q hq => by dsimp only; omega) (Value.int .i64 m0))
        have HX3 := Aside0.mk (blk_far (p := ⟨wo.heap.size + 1, 0, none⟩) HXA.out (by simp) (Value.int .i64 m0))
        have HS3 := Aside0.mk (show (W2.setCell ⟨wo.heap.size + 1, 0, none⟩ (Value.int .i64 m0)).heap[wo.heap.size + 1]? = some (.cells #[.int .i64 m0, .int .i64 0, .int .i64 0, .int .i64 0] 49 (0, 0)) from blk_put HSA.out 0 _ rfl)
        clear cl fl cx1 cx2 cs0 fs0 HBA HLA2 HOA HIA HXA HSA
        generalize W2.setCell ⟨wo.heap.size + 1, 0, none⟩ (Value.int .i64 m0) = W3 at HB3' HL3 HO3 HI3 HX3 HS3 ⊢
        obtain ⟨cl, fl⟩ := HL3.out.cell (by omega) hgn
        have cx1 := (blk_cell HX3.out 1).trans (show _ = some (Value.int .i64 gi) from by rw [← HGI.out]; rfl)
        have cs0 := (blk_cell HS3.out 0).trans (show _ = some (Value.int .i64 m0) from rfl)
        have w1 : IntKind.i64.wrap (x.f2 - m0) = x.f2 - m0 := by rw [IntKind.wrap_i64]; omega
        have w2 : IntKind.i64.wrap (rd L gi - m0) = rd L gi - m0 := by rw [IntKind.wrap_i64]; omega
        go_still_tail 17, (by kernel_rfl)
        change wpList _ _ _ _ _ W3.drew
        have HB4 := Aside0.mk (below_drew (HB3'.out.setCell (p := ⟨bl, gi, none⟩) HBL.out (Value.int .i64 (rd L gi - m0))))
        have HL4 := Aside0.mk (LeftAt.at (w' := (W3.setCell ⟨bl, gi, none⟩ (Value.int .i64 (rd L gi - m0))).drew) (LeftAt.put HL3.out gi (rd L gi - m0)) rfl)
        have HO4 := Aside0.mk (Kd.R_drew (Kd.R_far (p := ⟨bl, gi, none⟩) HO3.out (fun q hq => hq.1) (Value.int .i64 (rd L gi - m0))))
        have HI4 := Aside0.mk (Kd.R_drew (Kd.R_far (p := ⟨bl, gi, none⟩) HI3.out (fun q hq => hq.1) (Value.int .i64 (rd L gi - m0))))
        have HX4 := Aside0.mk (blk_drew (blk_far (p := ⟨bl, gi, none⟩) HX3.out (by show wo.heap.size ≠ bl; omega) (Value.int .i64 (rd L gi - m0))))
        have HS4 := Aside0.mk (blk_drew (blk_far (p := ⟨bl, gi, none⟩) HS3.out hne1.symm (Value.int .i64 (rd L gi - m0))))
        go_upto_region 12 with (fail)
        generalize (W3.setCell ⟨bl, gi, none⟩ (Value.int .i64 (rd L gi - m0))).drew = W4 at HB4 HL4 HO4 HI4 HX4 HS4 ⊢
        clear cl fl cx1 cs0 w1 w2 HB3' HL3 HO3 HI3 HX3 HS3
        have HL4' : Aside0 (LeftAt W4 bl l0.length cap (left1F x L)) := ⟨by
          have e : left1F x L = L.set gi (rd L gi - m0) := by
            unfold left1F
            rw [HM0.out, HGI.out, Int.toNat_natCast]
          rw [e]
          exact HL4.out⟩
        have cx4 := (blk_cell HX4.out 4).trans (show _ = some (Value.int .i64 x.f4) from rfl)
        obtain ⟨L1, hL1⟩ : ∃ L1, L1 = left1F x L := ⟨_, rfl⟩
        have hlb1 := left1F_ok (x := x) HLB.out (by omega) (by rw [HGI.out]; omega)
        have hL15 : L1.length = 5 := by rw [hL1, left1F, List.length_set, hL5]
        rw [← hL1] at HL4' hlb1
        have HL1 := Aside0.mk hL1
        have HLB1 := Aside0.mk hlb1
        have hib := instOf_bd (ins := x.f4) (rest := x.f2 - m0) hlb1 (by omega)
        clear hL1 hlb1 HL4
        go_upto_if 55 with (fail)
        go_cut [10] (fun v10 wc => v10 = .int .i64 (wantF x L) ∧ Aside0 (LeftAt wc bl l0.length cap (left2F x L)) ∧ Aside0 (Kd.R k49 49 wc W1.heap.size (fun q => q ≠ bl ∧ q < wo.heap.size) u4 sh) ∧ Aside0 (Kd.R (Kd.int .i64) 3 wc W1.heap.size (fun q => q ≠ bl ∧ q < wo.heap.size) (.slice Ai (f2s sh).length ci) (f2s sh)) ∧ Aside0 (wc.heap[wo.heap.size]? = some (.cells #[.int .i64 x.f0, .int .i64 x.f1, .int .i64 x.f2, .int .i64 x.f3, .int .i64 x.f4] 47 (0, 0))) ∧ Aside0 (wc.heap[wo.heap.size + 1]? = some (.cells #[.int .i64 m0, .int .i64 (instF x L), .int .i64 0, .int .i64 0] 49 (0, 0))) ∧ Aside0 (Below W1.heap.size W1 wc))
        case first =>
          by_cases cn : x.f4 < 0
          · have i1 : instF x L = 0 := by unfold instF instOf; rw [if_pos cn]
            have i2 : left2F x L = L1 := by unfold left2F leftOf; rw [if_pos cn, HL1.out]
            have I1 := Aside0.mk i1
            have I2 := Aside0.mk i2
            have dn : decide (0 ≤ x.f4) = false := decide_eq_false (by omega)
            clear i1 i2
            go_wp2
            go_meet
            case rel => exact ⟨by unfold wantF; rw [HM0.out, I1.out, Int.sub_zero], by rw [I2.out]; exact HL4', HO4, HI4, HX4, by rw [I1.out]; exact HS4, HB4⟩
          · obtain ⟨ii, hii⟩ := Int.eq_ofNat_of_zero_le (show 0 ≤ x.f4 by omega)
            have hin : ii < l0.length := by omega
            have dn : decide (0 ≤ x.f4) = true := decide_eq_true (by omega)
            have hdn : decide (0 ≤ (ii : Int)) = true := decide_eq_true (by omega)
            have hI1 : instOf x.f4 (x.f2 - m0) L1 = mn (x.f2 - m0) (rd L1 ii) := by unfold instOf; rw [if_neg cn, hii]
            have HI1 : Aside0 (instF x L = mn (x.f2 - m0) (rd L1 ii)) := ⟨by rw [← hI1]; unfold instF; rw [HM0.out, HL1.out]⟩
            have HI2 : Aside0 (left2F x L = L1.set ii (rd L1 ii - mn (x.f2 - m0) (rd L1 ii))) := ⟨by
              unfold left2F leftOf
              rw [if_neg cn, HM0.out, ← HL1.out, hI1, hii, Int.toNat_natCast]⟩
            rw [hI1, hii] at hib
            rw [hii] at cx4
            have HII := Aside0.mk hii
            have hrd1 := rd_bd HLB1.out ii
            have g2 : (0 : Int) ≤ (ii : Int) := by omega
            have g3 : (ii : Int) < (l0.length : Int) := by omega
            obtain ⟨cl, fl⟩ := HL4'.out.cell (by omega) hin
            have fs1 := blk_frozen HS4.out 1
            have cs1 := (blk_cell HS4.out 1).trans (show _ = some (Value.int .i64 0) from rfl)
            have hib3 := hib.2.2 (by omega)
            have hib1 := hib.1
            have hib2 := hib.2.1
            have c0 : 0 ≤ x.f4 := by omega
            clear hI1 hii hib
            go_upto_region 14 with (fail)
            generalize hm1e : (if rd L1 (ii : Int) < x.f2 - m0 then rd L1 (ii : Int) else x.f2 - m0) = m1
            have hm1f : mn (x.f2 - m0) (rd L1 ii) = m1 := hm1e
            rw [hm1f] at HI1 HI2 hib3 hib1 hib2
            clear hm1e hm1f
            have HB5 := Aside0.mk (HB4.out.setCell (p := ⟨wo.heap.size + 1, 1, none⟩) (Nat.le_succ_of_le HSB1.out) (Value.int .i64 m1))
            have HL5 := Aside0.mk (HL4'.out.at (Below.heap_setCell W4 ⟨wo.heap.size + 1, 1, none⟩ (Value.int .i64 m1) bl hne1))
            have HO5 := Aside0.mk (Kd.R_far (p := ⟨wo.heap.size + 1, 1, none⟩) HO4.out (fun q hq => by dsimp only; omega) (Value.int .i64 m1))
            have HI5 := Aside0.mk (Kd.R_far (p := ⟨wo.heap.size + 1, 1, none⟩) HI4.out (fun q hq => by dsimp only; omega) (Value.int .i64 m1))
            have HX5 := Aside0.mk (blk_far (p := ⟨wo.heap.size + 1, 1, none⟩) HX4.out (by simp) (Value.int .i64 m1))
            have HS5 := Aside0.mk (show (W4.setCell ⟨wo.heap.size + 1, 1, none⟩ (Value.int .i64 m1)).heap[wo.heap.size + 1]? = some (.cells #[.int .i64 m0, .int .i64 m1, .int .i64 0, .int .i64 0] 49 (0, 0)) from blk_put HS4.out 1 _ rfl)
            clear cl fl cx4 cs1 fs1 HB4 HL4' HO4 HI4 HX4 HS4
            generalize W4.setCell ⟨wo.heap.size + 1, 1, none⟩ (Value.int .i64 m1) = W5 at HB5 HL5 HO5 HI5 HX5 HS5 ⊢
            obtain ⟨cl, fl⟩ := HL5.out.cell (by omega) hin
            have cx4 := (blk_cell HX5.out 4).trans (show _ = some (Value.int .i64 ii) from by rw [← HII.out]; rfl)
            have cs1 := (blk_cell HS5.out 1).trans (show _ = some (Value.int .i64 m1) from rfl)
            have w1 : IntKind.i64.wrap (x.f2 - m0 - m1) = x.f2 - m0 - m1 := by rw [IntKind.wrap_i64]; omega
            have w2 : IntKind.i64.wrap (rd L1 ii - m1) = rd L1 ii - m1 := by rw [IntKind.wrap_i64]; omega
            go_still_tail 17, (by kernel_rfl)
            change wpList _ _ _ _ _ W5.drew
            have HB6 := Aside0.mk (below_drew (HB5.out.setCell (p := ⟨bl, ii, none⟩) HBL.out (Value.int .i64 (rd L1 ii - m1))))
            have HL6 := Aside0.mk (LeftAt.at (w' := (W5.setCell ⟨bl, ii, none⟩ (Value.int .i64 (rd L1 ii - m1))).drew) (LeftAt.put HL5.out ii (rd L1 ii - m1)) rfl)
            have HO6 := Aside0.mk (Kd.R_drew (Kd.R_far (p := ⟨bl, ii, none⟩) HO5.out (fun q hq => hq.1) (Value.int .i64 (rd L1 ii - m1))))
            have HI6 := Aside0.mk (Kd.R_drew (Kd.R_far (p := ⟨bl, ii, none⟩) HI5.out (fun q hq => hq.1) (Value.int .i64 (rd L1 ii - m1))))
            have HX6 := Aside0.mk (blk_drew (blk_far (p := ⟨bl, ii, none⟩) HX5.out (by show wo.heap.size ≠ bl; omega) (Value.int .i64 (rd L1 ii - m1))))
            have HS6 := Aside0.mk (blk_drew (blk_far (p := ⟨bl, ii, none⟩) HS5.out hne1.symm (Value.int .i64 (rd L1 ii - m1))))
            go_wp2
            go_meet
            case rel => exact ⟨by unfold wantF; rw [HM0.out, HI1.out], by rw [HI2.out]; exact HL6, HO6, HI6, HX6, by rw [HI1.out]; exact HS6, HB6⟩
        case rest =>
          obtain ⟨rfl, HL7, HO7, HI7, HX7, HS7, HB7⟩ := hcut
          have hwb : 0 ≤ wantF x L ∧ wantF x L ≤ 20 := by
            have e : instF x L = instOf x.f4 (x.f2 - m0) L1 := by unfold instF; rw [HM0.out, HL1.out]
            unfold wantF
            rw [HM0.out, e]
            omega
          obtain ⟨wn, hwn⟩ := Int.eq_ofNat_of_zero_le hwb.1
          have HWN := Aside0.mk hwn
          rw [hwn] at hwb ⊢
          have hwb2 := hwb.2
          clear hwn hwb hib cx4
          obtain ⟨ln, hln⟩ : ∃ ln, ln = listedF l1 x.f1 sh F wn := ⟨_, rfl⟩
          have hlnw : ln ≤ wn := by rw [hln]; exact listedF_le _ _ _ _ _
          have HLN := Aside0.mk hln
          clear hln
          go_upto_block 2 with (fail)
          go_cut [10] (fun v10 w8 => v10 = .int .i64 wn ∧ Aside0 (LeftAt w8 bl l0.length cap (left2F x L)) ∧ Aside0 (Kd.R k49 49 w8 W1.heap.size (fun q => q ≠ bl ∧ q < wo.heap.size) u4 sh) ∧ Aside0 (Kd.R (Kd.int .i64) 3 w8 W1.heap.size (fun q => q ≠ bl ∧ q < wo.heap.size) (.slice Ai (f2s sh).length ci) (f2s sh)) ∧ Aside0 (w8.heap[wo.heap.size + 1]? = some (.cells #[.int .i64 m0, .int .i64 (instF x L), .int .i64 ln, .int .i64 0] 49 (0, 0))) ∧ Aside0 (Below W1.heap.size W1 w8))
          case first =>
            go_wp2_with (fail)
            go_loopw [80] (fun v80 wi => ∃ m : Nat, m ≤ wn ∧ Aside0 (m = 0 ∨ keptN l1 x.f1 sh F m = true) ∧ Aside0 (LeftAt wi bl l0.length cap (left2F x L)) ∧ Aside0 (Kd.R k49 49 wi W1.heap.size (fun q => q ≠ bl ∧ q < wo.heap.size) u4 sh) ∧ Aside0 (Kd.R (Kd.int .i64) 3 wi W1.heap.size (fun q => q ≠ bl ∧ q < wo.heap.size) (.slice Ai (f2s sh).length ci) (f2s sh)) ∧ Aside0 (wi.heap[wo.heap.size]? = some (.cells #[.int .i64 x.f0, .int .i64 x.f1, .int .i64 x.f2, .int .i64 x.f3, .int .i64 x.f4] 47 (0, 0))) ∧ Aside0 (wi.heap[wo.heap.size + 1]? = some (.cells #[.int .i64 m0, .int .i64 (instF x L), .int .i64 m, .int .i64 0] 49 (0, 0))) ∧ Aside0 (Below W1.heap.size W1 wi)) (fun _ wi => wn - (intOf ((wi.cell? ⟨wo.heap.size + 1, 2, none⟩).getD undef)).toNat)
            case atStart => exact ⟨0, by omega, ⟨Or.inl rfl⟩, HL7, HO7, HI7, HX7, HS7, HB7⟩
            case round =>
              obtain ⟨m, hm, HK, HLI, HOI, HII2, HXI, HSI, HBI⟩ := hrel
              have d2 := (blk_cell HSI.out 2).trans (show _ = some (Value.int .i64 m) from rfl)
              have ff2 := blk_frozen HSI.out 2
              have d6 := (blk_cell HXI.out 1).trans (show _ = some (Value.int .i64 gi) from by rw [← HGI.out]; rfl)
              have d3 := pw_cell_below HBI.out PX0.out
              have d4 := pw_cell_below HBI.out PX1.out
              have d5 := pw_cell_below HBI.out PX2.out
              by_cases hmw : m < wn
              · have hdm : decide ((m : Int) < (wn : Int)) = true := decide_eq_true (by omega)
                have hwm : IntKind.i64.wrap ((m : Int) + 1) = (m : Int) + 1 := by rw [IntKind.wrap_i64]; omega
                have HCi := Aside0.mk (Kd.R_reads' HII2.out).2.2
                have HRF := Aside0.mk (Below.refl wr.heap.size wr)
                obtain ⟨ys, hys⟩ : ∃ ys, ys = f2s sh ++ [(m : Int) + 1] := ⟨_, rfl⟩
                have HYS := Aside0.mk (show wishbookref00_With.f (f2s sh) ((m : Int) + 1) = some ys by rw [hys]; exact With_f _ _ (by rw [f2s_len, HSK.out]; omega))
                have HKQ := Aside0.mk (show wishbookref10_kept.f 2040 l0 l1 l2 gi ys = some (keptN l1 x.f1 sh F (m + 1)) by
                  have h := kept_f l0 l1 l2 (sh ++ [(⟨0, 0, ((m + 1 : Nat) : Int), 0⟩ : S49)]) gi hl6 HOKD.out (by rw [List.length_append, HSK.out]; show k + 1 ≤ _; omega) (by rw [List.length_append, HSK.out]; show k + 1 ≤ _; omega) (snoc_bd (fun s hs => by have := HSB.out s hs; unfold OkShare at this; omega) (by omega)) 2040 (by omega)
                  rw [f2s_snoc, ← HF.out] at h
                  rw [hys, HGI.out]
                  exact h)
                clear hys
                cases hK : keptN l1 x.f1 sh F (m + 1) with
                | true =>
                  rw [hK] at HKQ
                  have HKP := Aside0.mk HKQ.out
                  have HKN := Aside0.mk hK
                  clear hK
                  go_wp2_with (fail)
                  go_region_held3 (fun W => W.cell? ⟨wo.heap.size + 1, 2, none⟩ = some (.int .i64 m) ∧ W.cell? ⟨w.heap.size, 0, none⟩ = some (.slice A0 l0.length c0) ∧ W.cell? ⟨w.heap.size, 1, none⟩ = some (.slice (some ad1) l1.length c1) ∧ W.cell? ⟨w.heap.size, 2, none⟩ = some (.slice A2 l2.length c2) ∧ W.cell? ⟨wo.heap.size, 1, none⟩ = some (.int .i64 gi)) (go_keep)
                  (first
                    | (go_at_call 36; (with_reducible refine (wishbookref00_With.calls Ai ci (f2s sh) ((m : Int) + 1) ys _ (Kd.C_below HCi.out (by repeat (first | (with_reducible exact HRF.out) | apply below_drew | apply pw_below_drewN))) HCI.out HYS.out).mono ?_); rintro e w9 ⟨v9, rfl, hR9, hb9⟩; have d2a := pw_cell_below hb9 (a := ⟨wo.heap.size + 1, 2, none⟩) (v := .int .i64 m) d2; have d3a := pw_cell_below hb9 (a := ⟨w.heap.size, 0, none⟩) (v := .slice A0 l0.length c0) d3; have d4a := pw_cell_below hb9 (a := ⟨w.heap.size, 1, none⟩) (v := .slice (some ad1) l1.length c1) d4; have d5a := pw_cell_below hb9 (a := ⟨w.heap.size, 2, none⟩) (v := .slice A2 l2.length c2) d5; have d6a := pw_cell_below hb9 (a := ⟨wo.heap.size, 1, none⟩) (v := .int .i64 gi) d6; have HB9 := Aside0.mk (below_step (by repeat (first | (with_reducible exact HBI.out) | apply below_drew | apply pw_below_drewN)) hb9); have HB9i := Aside0.mk (below_step (by repeat (first | (with_reducible exact HRF.out) | apply below_drew | apply pw_below_drewN)) hb9); obtain ⟨A9, c9, rfl, hle9, hC9⟩ := Kd.R_reads hR9; have HC9 := Aside0.mk hC9; have HLE9 := Aside0.mk hle9; clear hR9 hC9 hb9 hle9)
                    | (go_at_call 63; (with_reducible refine (wishbookref10_kept.calls 2040 A0 c0 l0 (some ad1) c1 l1 A2 c2 l2 gi A9 c9 ys true _ (Kd.C_below (Kd.C_below H0.out HW1.out) (by repeat (first | (with_reducible exact HB9.out) | apply below_drew | apply pw_below_drewN))) HC.out.1 (Kd.C_below (Kd.C_below H1.out HW1.out) (by repeat (first | (with_reducible exact HB9.out) | apply below_drew | apply pw_below_drewN))) HC.out.2.1 (Kd.C_below (Kd.C_below H2.out HW1.out) (by repeat (first | (with_reducible exact HB9.out) | apply below_drew | apply pw_below_drewN))) HC.out.2.2 HC9.out HLE9.out HKP.out).mono ?_); rintro e w10 ⟨rfl, hb10⟩; have d2b := pw_cell_below hb10 (a := ⟨wo.heap.size + 1, 2, none⟩) (v := .int .i64 m) d2a; have d3b := pw_cell_below hb10 (a := ⟨w.heap.size, 0, none⟩) (v := .slice A0 l0.length c0) d3a; have d4b := pw_cell_below hb10 (a := ⟨w.heap.size, 1, none⟩) (v := .slice (some ad1) l1.length c1) d4a; have d5b := pw_cell_below hb10 (a := ⟨w.heap.size, 2, none⟩) (v := .slice A2 l2.length c2) d5a; have d6b := pw_cell_below hb10 (a := ⟨wo.heap.size, 1, none⟩) (v := .int .i64 gi) d6a; have HB10 := Aside0.mk (below_step (by repeat (first | (with_reducible exact HB9.out) | apply below_drew | apply pw_below_drewN)) hb10); have HB10i := Aside0.mk (below_step (by repeat (first | (with_reducible exact HB9i.out) | apply below_drew | apply pw_below_drewN)) hb10); clear hb10))
                  all_goals
                    have HL10 := Aside0.mk (HLI.out.below HB10i.out)
                    have HO10 := Aside0.mk (Kd.R_below HOI.out HB10i.out)
                    have HI10 := Aside0.mk (Kd.R_below HII2.out HB10i.out)
                    have HX10 := Aside0.mk (blk_below HXI.out HB10i.out)
                    have HS10 := Aside0.mk (blk_below HSI.out HB10i.out)
                    have ff10 := blk_frozen HS10.out 2
                    have HB11 := Aside0.mk (HB10.out.setCell (p := ⟨wo.heap.size + 1, 2, none⟩) (Nat.le_succ_of_le HSB1.out) (Value.int .i64 ((m : Int) + 1)))
                    have HL11 := Aside0.mk (HL10.out.at (Below.heap_setCell w10 ⟨wo.heap.size + 1, 2, none⟩ (Value.int .i64 ((m : Int) + 1)) bl hne1))
                    have HO11 := Aside0.mk (Kd.R_far (p := ⟨wo.heap.size + 1, 2, none⟩) HO10.out (fun q hq => by dsimp only; omega) (Value.int .i64 ((m : Int) + 1)))
                    have HI11 := Aside0.mk (Kd.R_far (p := ⟨wo.heap.size + 1, 2, none⟩) HI10.out (fun q hq => by dsimp only; omega) (Value.int .i64 ((m : Int) + 1)))
                    have HX11 := Aside0.mk (blk_far (p := ⟨wo.heap.size + 1, 2, none⟩) HX10.out (by simp) (Value.int .i64 ((m : Int) + 1)))
                    have HS11 := Aside0.mk (show (w10.setCell ⟨wo.heap.size + 1, 2, none⟩ (Value.int .i64 ((m : Int) + 1))).heap[wo.heap.size + 1]? = some (.cells #[.int .i64 m0, .int .i64 (instF x L), .int .i64 ((m + 1 : Nat) : Int), .int .i64 0] 49 (0, 0)) from blk_put HS10.out 2 _ rfl)
                    have HD11 := Aside0.mk ((blk_cell HS11.out 2).trans (show _ = some (Value.int .i64 ((m + 1 : Nat) : Int)) from rfl))
                    have HD2 := Aside0.mk d2
                    clear hwm d2 d3 d4 d5 d6
                    go_wp2
                    go_roundw
                    case rel => exact ⟨m + 1, by omega, ⟨Or.inr HKN.out⟩, HL11, HO11, HI11, HX11, HS11, HB11⟩
                    case measure =>
                      rw [HD11.out, HD2.out]
                      simp [intOf]
                      omega
                | false =>
                  rw [hK] at HKQ
                  have HKP := Aside0.mk HKQ.out
                  have HKN := Aside0.mk hK
                  clear hK
                  go_wp2_with (fail)
                  go_region_held3 (fun W => W.cell? ⟨wo.heap.size + 1, 2, none⟩ = some (.int .i64 m) ∧ W.cell? ⟨w.heap.size, 0, none⟩ = some (.slice A0 l0.length c0) ∧ W.cell? ⟨w.heap.size, 1, none⟩ = some (.slice (some ad1) l1.length c1) ∧ W.cell? ⟨w.heap.size, 2, none⟩ = some (.slice A2 l2.length c2) ∧ W.cell? ⟨wo.heap.size, 1, none⟩ = some (.int .i64 gi)) (go_keep)
                  (first
                    | (go_at_call 36; (with_reducible refine (wishbookref00_With.calls Ai ci (f2s sh) ((m : Int) + 1) ys _ (Kd.C_below HCi.out (by repeat (first | (with_reducible exact HRF.out) | apply below_drew | apply pw_below_drewN))) HCI.out HYS.out).mono ?_); rintro e w9 ⟨v9, rfl, hR9, hb9⟩; have d2a := pw_cell_below hb9 (a := ⟨wo.heap.size + 1, 2, none⟩) (v := .int .i64 m) d2; have d3a := pw_cell_below hb9 (a := ⟨w.heap.size, 0, none⟩) (v := .slice A0 l0.length c0) d3; have d4a := pw_cell_below hb9 (a := ⟨w.heap.size, 1, none⟩) (v := .slice (some ad1) l1.length c1) d4; have d5a := pw_cell_below hb9 (a := ⟨w.heap.size, 2, none⟩) (v := .slice A2 l2.length c2) d5; have d6a := pw_cell_below hb9 (a := ⟨wo.heap.size, 1, none⟩) (v := .int .i64 gi) d6; have HB9 := Aside0.mk (below_step (by repeat (first | (with_reducible exact HBI.out) | apply below_drew | apply pw_below_drewN)) hb9); have HB9i := Aside0.mk (below_step (by repeat (first | (with_reducible exact HRF.out) | apply below_drew | apply pw_below_drewN)) hb9); obtain ⟨A9, c9, rfl, hle9, hC9⟩ := Kd.R_reads hR9; have HC9 := Aside0.mk hC9; have HLE9 := Aside0.mk hle9; clear hR9 hC9 hb9 hle9)
                    | (go_at_call 63; (with_reducible refine (wishbookref10_kept.calls 2040 A0 c0 l0 (some ad1) c1 l1 A2 c2 l2 gi A9 c9 ys false _ (Kd.C_below (Kd.C_below H0.out HW1.out) (by repeat (first | (with_reducible exact HB9.out) | apply below_drew | apply pw_below_drewN))) HC.out.1 (Kd.C_below (Kd.C_below H1.out HW1.out) (by repeat (first | (with_reducible exact HB9.out) | apply below_drew | apply pw_below_drewN))) HC.out.2.1 (Kd.C_below (Kd.C_below H2.out HW1.out) (by repeat (first | (with_reducible exact HB9.out) | apply below_drew | apply pw_below_drewN))) HC.out.2.2 HC9.out HLE9.out HKP.out).mono ?_); rintro e w10 ⟨rfl, hb10⟩; have d2b := pw_cell_below hb10 (a := ⟨wo.heap.size + 1, 2, none⟩) (v := .int .i64 m) d2a; have d3b := pw_cell_below hb10 (a := ⟨w.heap.size, 0, none⟩) (v := .slice A0 l0.length c0) d3a; have d4b := pw_cell_below hb10 (a := ⟨w.heap.size, 1, none⟩) (v := .slice (some ad1) l1.length c1) d4a; have d5b := pw_cell_below hb10 (a := ⟨w.heap.size, 2, none⟩) (v := .slice A2 l2.length c2) d5a; have d6b := pw_cell_below hb10 (a := ⟨wo.heap.size, 1, none⟩) (v := .int .i64 gi) d6a; have HB10 := Aside0.mk (below_step (by repeat (first | (with_reducible exact HB9.out) | apply below_drew | apply pw_below_drewN)) hb10); have HB10i := Aside0.mk (below_step (by repeat (first | (with_reducible exact HB9i.out) | apply below_drew | apply pw_below_drewN)) hb10); clear hb10))
                  all_goals
                    have HL10 := Aside0.mk (HLI.out.below HB10i.out)
                    have HO10 := Aside0.mk (Kd.R_below HOI.out HB10i.out)
                    have HI10 := Aside0.mk (Kd.R_below HII2.out HB10i.out)
                    have HX10 := Aside0.mk (blk_below HXI.out HB10i.out)
                    have HS10 := Aside0.mk (blk_below HSI.out HB10i.out)
                    have ff10 := blk_frozen HS10.out 2
                    have HE : Aside0 (ln = m) := ⟨by rw [HLN.out]; exact listedF_stop HK.out HKN.out wn (by omega)⟩
                    go_wp2
                    go_meet
                    case rel => exact ⟨rfl, HL10, HO10, HI10, by rw [HE.out]; exact HS10, HB10⟩
              · obtain rfl : m = wn := by omega
                have hdm : decide ((m : Int) < (m : Int)) = false := decide_eq_false (by omega)
                have HE : Aside0 (ln = m) := ⟨by rw [HLN.out]; exact listedF_all HK.out⟩
                go_wp2_with (fail)
                go_quiet (fail)
                go_wp2
                go_meet
                case rel => exact ⟨rfl, ⟨HLI.out.at rfl⟩, ⟨Kd.R_drewN HOI.out _⟩, ⟨Kd.R_drewN HII2.out _⟩, by rw [HE.out]; exact ⟨blk_drewN HSI.out _⟩, ⟨pw_below_drewN HBI.out _⟩⟩
          case rest =>
            obtain ⟨rfl, HL8, HO8, HI8, HS8, HB8⟩ := hcut
            have d2 := (blk_cell HS8.out 2).trans (show _ = some (Value.int .i64 ln) from rfl)
            have d3 := (blk_cell HS8.out 3).trans (show _ = some (Value.int .i64 0) from rfl)
            have ff3 := blk_frozen HS8.out 3
            have w1 : IntKind.i64.wrap ((wn : Int) - (ln : Int)) = (wn : Int) - (ln : Int) := by rw [IntKind.wrap_i64]; omega
            go_upto_region 18 with (fail)
            have HB11 := Aside0.mk (HB8.out.setCell (p := ⟨wo.heap.size + 1, 3, none⟩) (Nat.le_succ_of_le HSB1.out) (Value.int .i64 ((wn : Int) - (ln : Int))))
            have HL11 := Aside0.mk (HL8.out.at (Below.heap_setCell wc ⟨wo.heap.size + 1, 3, none⟩ (Value.int .i64 ((wn : Int) - (ln : Int))) bl hne1))
            have HO11 := Aside0.mk (Kd.R_far (p := ⟨wo.heap.size + 1, 3, none⟩) HO8.out (fun q hq => by dsimp only; omega) (Value.int .i64 ((wn : Int) - (ln : Int))))
            have HI11 := Aside0.mk (Kd.R_mono (ok' := fun q => q ≠ bl ∧ q ≠ wo.heap.size + 1) (Kd.R_far (p := ⟨wo.heap.size + 1, 3, none⟩) HI8.out (fun q hq => by dsimp only; omega) (Value.int .i64 ((wn : Int) - (ln : Int)))) (fun q hq => ⟨hq.1, by omega⟩))
            have HS11 := Aside0.mk (show (wc.setCell ⟨wo.heap.size + 1, 3, none⟩ (Value.int .i64 ((wn : Int) - (ln : Int)))).heap[wo.heap.size + 1]? = some (.cells #[.int .i64 m0, .int .i64 (instF x L), .int .i64 ln, .int .i64 ((wn : Int) - (ln : Int))] 49 (0, 0)) from blk_put HS8.out 3 _ rfl)
            clear d2 d3 ff3 w1 HL8 HO8 HI8 HS8 HB8
            generalize wc.setCell ⟨wo.heap.size + 1, 3, none⟩ (Value.int .i64 ((wn : Int) - (ln : Int))) = W8 at HB11 HL11 HO11 HI11 HS11 ⊢
            have d2 := (blk_cell HS11.out 2).trans (show _ = some (Value.int .i64 ln) from rfl)
            have HSZ := Aside0.mk (blk_lt HS11.out)
            have HLZ := Aside0.mk HL11.out.lt
            have HBX := Aside0.mk (below_alloc (Below.refl W8.heap.size W8) (Obj.cells #[Value.int .i64 ln] 3))
            have HLEN := Aside0.mk (show (f2s sh).length = k by rw [f2s_len, HSK.out])
            have hsz := HSZ.out
            have hlz := HLZ.out
            clear hlz hsz
            go_upto_region 19 with ((at_builtin; go_must (refine Kd.R_append (Kd.int .i64) (w0 := W1) W1.heap.size rfl (.tmp 104) (.tmp 107) 22 3 (.int .i64 0) 8 rfl Tryd.underlying22 info3 rfl (by decide) (by omega) _ (f2s sh) (ln : Int) [.int .i64 (ln : Int)] (fun q => q ≠ bl ∧ q ≠ wo.heap.size + 1) (fun _ => False) rfl rfl ?aP (fun _ hk => hk.elim) ?aF ?aO ?aB ?aS ?aL ?_; (case aP => exact rfl); (case aB => exact HB11.out); (case aF => exact (fun q hq => by have e1 := HSZ.out; have e2 := HLZ.out; have e3 : W8.heap.size ≤ q := hq; exact ⟨by omega, by omega⟩)); (case aO => exact HI11.out); (case aS => exact below_size HB11.out); (case aL => have := HLEN.out; omega); intro v12 w12 ho12 hb12 hg12 hat12; have HI12 := Aside0.mk ho12; have HB12 := Aside0.mk hb12; have HG12 := Aside0.mk hg12; clear ho12 hb12 hg12 hat12)))
            have HL12 := Aside0.mk (HL11.out.at (HG12.out.block bl HLZ.out (fun h => (HI11.out.1 bl h.symm).1 rfl)))
            have HS12 := Aside0.mk (blk_grown HS11.out HG12.out (fun h => (HI11.out.1 _ h.symm).2 rfl))
            have HO12 := Aside0.mk (R_two rfl rfl (by decide) HO11.out HI11.out HG12.out)
            have hal := HS12.out
            have c0_ := (blk_cell hal 0).trans (show _ = some (Value.int .i64 m0) from rfl)
            have c1_ := (blk_cell hal 1).trans (show _ = some (Value.int .i64 (instF x L)) from rfl)
            have c2_ := (blk_cell hal 2).trans (show _ = some (Value.int .i64 ln) from rfl)
            have c3_ := (blk_cell hal 3).trans (show _ = some (Value.int .i64 ((wn : Int) - (ln : Int))) from rfl)
            clear hal d2
            go_wp2_with ((at_builtin; go_must (refine Kd.R_append k49 (w0 := W1) W1.heap.size rfl (.tmp 109) (.tmp 111) 42 49 (.agg #[.int .i64 0, .int .i64 0, .int .i64 0, .int .i64 0]) 32 rfl Tryd.underlying42 info49 (by kernel_rfl) (by decide) (by omega) _ sh ⟨m0, instF x L, (ln : Int), (wn : Int) - (ln : Int)⟩ [.int .i64 m0, .int .i64 (instF x L), .int .i64 (ln : Int), .int .i64 ((wn : Int) - (ln : Int))] (fun _ => True) (fun _ => False) rfl rfl ?aP (fun _ hk => hk.elim) ?aF ?aO ?aB ?aS ?aL ?_; (case aP => exact k49_mkM _ _ _ _); (case aB => exact HB12.out); (case aF => exact (fun _ _ => trivial)); (case aO => exact Kd.R_mono HO12.out (fun _ _ => trivial)); (case aS => exact below_size HB12.out); (case aL => have := HSK.out; omega); intro v13 w13 ho13 hb13 hg13 hat13; have HO13 := Aside0.mk ho13; have HB13 := Aside0.mk hb13; have HG13 := Aside0.mk hg13; clear ho13 hb13 hg13 hat13)))
            have HL13 := Aside0.mk (HL12.out.at (HG13.out.block bl HL12.out.lt (fun h => by
              obtain ⟨c, hc⟩ := R_own rfl HO12.out h.symm
              obtain ⟨cur, hb', -⟩ := HL12.out
              rw [hc] at hb'
              injection hb' with hb'
              injection hb' with _ h3
              exact absurd h3 (by decide))))
            have HI13 := Aside0.mk (Kd.R_mono (R_two rfl rfl (by decide) HI12.out HO12.out HG13.out) (ok' := fun q => q ≠ bl) (fun _ h => h.1))
            have HSH := Aside0.mk (show serveF l1 F (k + 1) 0 (left0 l0, []) = (left2F x L, sh ++ [⟨m0, instF x L, (ln : Int), (wn : Int) - (ln : Int)⟩]) by rw [HSTEP.out, HLN.out]; unfold shareF; rw [HM0.out, HWN.out, Int.toNat_natCast])
            go_roundw
            case rel => exact ⟨k + 1, by omega, by go_num, by rw [HSH.out]; exact HL13, by rw [HSH.out]; exact HO13, by rw [HSH.out]; unfold f2s at HI13 ⊢; rw [List.map_append]; exact HI13, HB13⟩
            case measure => simp [intOf]; omega
      · obtain rfl : k = l1.length := by omega
        have y1 := pw_cell_below HB.out PX1.out
        go_wp2
        refine bodyPost_ret (results_tmp2 rfl _ _ _) rfl ?_
        have h5 := (HSV.out l1.length (Nat.le_refl _)).1
        exact ⟨_, _, rfl, Kd.R_lower HO.out (below_size HW1.out), HL.out.R (by rw [h5]; exact hn5) (Nat.le_trans (below_size HW1.out) HBL.out) _ trivial, below_step HW1.out HB.out⟩
end Go.Proofs.YtegpepnmnlockaaDoor.PL
namespace Go.Proofs.YtegpepnmnlockaaDoor.PL
open Go.RowKit Go.Proofs.YtegpepnmnlockaaDoorW.PrintWords Go.Proofs.YtegpepnmnlockaaDoorW.PrintLast Go.Proofs.YtegpepnmnlockaaDoorW.PrintMore
attribute [local go_sem] max2_int min2_int max_two min_two max_three min_three max_four min_four   -- for this text's walks alone
set_option linter.unusedVariables false
set_option linter.unusedSimpArgs false
theorem eqA49 (d : Nat) (w : World) (x0 y0 : Int) (x1 y1 : Int) (x2 y2 : Int) (x3 y3 : Int) :
    (Op.equalIn (d + 2) 49 (.agg #[.int .i64 x0, .int .i64 x1, .int .i64 x2, .int .i64 x3]) (.agg #[.int .i64 y0, .int .i64 y1, .int .i64 y2, .int .i64 y3])).run Tryd.prog w = .ok (x0 == y0 && (x1 == y1 && (x2 == y2 && (x3 == y3)))) w := by
  refine eqA_of Tryd.underlying49 (by kernel_rfl) ?_
  refine eqf_cons (by rfl) (by go_simp; rfl) (by go_simp; rfl) (by go_simp) ?_
  refine eqf_cons (by rfl) (by go_simp; rfl) (by go_simp; rfl) (by go_simp) ?_
  refine eqf_cons (by rfl) (by go_simp; rfl) (by go_simp; rfl) (by go_simp) ?_
  exact eqf_last (by rfl) (by go_simp; rfl) (by go_simp; rfl) (by go_simp)
end Go.Proofs.YtegpepnmnlockaaDoor.PL
namespace Go.Proofs.YtegpepnmnlockaaDoor.PL
open Go.RowKit Go.Proofs.YtegpepnmnlockaaDoorW.PrintWords Go.Proofs.YtegpepnmnlockaaDoorW.PrintLast Go.Proofs.YtegpepnmnlockaaDoorW.PrintMore
set_option linter.unusedVariables false
set_option linter.unusedSimpArgs false
def lineR (n : Int) (x : S47) : Bool := wthB x.f0 0 9 && wthB x.f1 0 (n - 1) && wthB x.f2 1 20 && wthB x.f3 0 100 && (x.f4 == -1 || wthB x.f4 0 (n - 1) && x.f4 != x.f1)
theorem lineR_eq (n : Int) (x : S47) : lineR n x = lineB n x := by
  rw [← lineB_ok, Bool.eq_iff_iff, decide_eq_true_iff]
  simp only [lineR, wthB, okLine, Bool.and_eq_true, Bool.or_eq_true, decide_eq_true_eq, beq_iff_eq, bne_iff_ne, ne_eq]
  constructor
  · rintro ⟨⟨⟨⟨a, b⟩, c⟩, d⟩, e⟩
    refine ⟨a, b, c, d, ?_⟩
    rcases e with e | ⟨e, f⟩
    · exact ⟨⟨by omega, by omega⟩, by omega⟩
    · exact ⟨⟨by omega, by omega⟩, f⟩
  · rintro ⟨a, b, c, d, e, f⟩
    refine ⟨⟨⟨⟨a, b⟩, c⟩, d⟩, ?_⟩
    by_cases g : x.f4 = -1
    · exact Or.inl g
    · exact Or.inr ⟨⟨by omega, by omega⟩, f⟩
theorem tween_any (a b c : Int) (w : World) : Calls Tryd.prog 34 #[.int .i64 a, .int .i64 b, .int .i64 c] w fun e w' => e = .returned (.bool (wthB a b c)) ∧ Drawn0 w w' :=
  wishbookref00_Tween.calls a b c _ w (by unfold wishbookref00_Tween.f wthB; by_cases h : b ≤ a <;> simp [h])
theorem proper_any (x : S55) (c d : Int) (w : World) : Calls Tryd.prog 65 #[.agg #[.int .i64 x.f0, .int .i64 x.f1], .int .i64 c, .int .i64 d] w fun e w' => e = .returned (.bool (spnB x c d)) ∧ Below w.heap.size w w' :=
  wishbookref00_Proper.calls x.f0 x.f1 c d _ w (by unfold wishbookref00_Proper.f spnB; by_cases h : c ≤ x.f0 <;> by_cases h2 : x.f0 ≤ x.f1 <;> simp [h, h2])
theorem good_any (A0 A1 A2 : Option Addr) (c0 c1 c2 : Nat) (l0 : List Int) (l1 : List S47) (l2 : List S57) (a : Int) (w : World)
    (h0 : Kd.C (Kd.int .i64) w A0 l0.length l0) (hc0 : l0.length ≤ c0) (h1 : Kd.C k47 w A1 l1.length l1) (hc1 : l1.length ≤ c1) (h2 : Kd.C k57 w A2 l2.length l2) (hc2 : l2.length ≤ c2) (hf : (l0.length : Int) < 9000000000000000000) :
    Calls Tryd.prog 71 #[.agg #[.slice A0 l0.length c0, .slice A1 l1.length c1, .slice A2 l2.length c2], .int .i64 a] w fun e w' => e = .returned (.bool (wthB a 0 ((l0.length : Int) - 1))) ∧ Below w.heap.size w w' :=
  wishbookref10_isGood.calls A0 c0 l0 A1 c1 l1 A2 c2 l2 a _ w h0 hc0 h1 hc1 h2 hc2 (by
    unfold wishbookref10_isGood.f wishbookref00_Tween.f wthB
    rw [wrap_pred hf]
    by_cases h : (0 : Int) ≤ a <;> simp [h])
theorem chkS_false (l0 : List Int) (b : Bool) : ∀ (d i : Nat), chkS l0 b i = false → chkS l0 b (i + d) = false
  | 0, i, h => h
  | d + 1, i, h => by rw [Nat.add_succ, chkS, chkS_false l0 b d i h]; rfl
theorem chkL_false (n : Int) (l : List S47) (b : Bool) : ∀ (d i : Nat), chkL n l b i = false → chkL n l b (i + d) = false
  | 0, i, h => h
  | d + 1, i, h => by rw [Nat.add_succ, chkL, chkL_false n l b d i h]; rfl
theorem chkD_false (n : Int) (l : List S57) (b : Bool) : ∀ (d i : Nat), chkD n l b i = false → chkD n l b (i + d) = false
  | 0, i, h => h
  | d + 1, i, h => by rw [Nat.add_succ, chkD, chkD_false n l b d i h]; rfl
/-- What the reference's Check says. -/
def wishbookref10_Check.f (l0 : List Int) (l1 : List S47) (l2 : List S57) : Option Int := if Few l0 l1 l2 then some (chkV (okB l0 l1 l2)) else none
set_option maxHeartbeats 8000000 in
set_option maxRecDepth 100000 in
theorem RCheck_walk (A0 A1 A2 : Option Addr) (c0 c1 c2 : Nat) (l0 : List Int) (l1 : List S47) (l2 : List S57) (w : World)
    (h0 : Kd.C (Kd.int .i64) w A0 l0.length l0) (hc0 : l0.length ≤ c0) (h1 : Kd.C k47 w A1 l1.length l1) (hc1 : l1.length ≤ c1) (h2 : Kd.C k57 w A2 l2.length l2) (hc2 : l2.length ≤ c2)
    (hf0 : (l0.length : Int) < 9000000000000000000) (hf1 : (l1.length : Int) < 9000000000000000000) (hf2 : (l2.length : Int) < 9000000000000000000) :
    Calls Tryd.prog 47 #[.agg #[.slice A0 l0.length c0, .slice A1 l1.length c1, .slice A2 l2.length c2]] w fun e w' => e = .returned (.int .i64 (chkV (chkD l0.length l2 (chkL l0.length l1 (chkS l0 (lenB l0 l1 l2) l0.length) l1.length) l2.length))) ∧ Below w.heap.size w w' := by
  have H0 := Aside0.mk h0
  have H1 := Aside0.mk h1
  have H2 := Aside0.mk h2
  have HC0 := Aside0.mk hc0
  have HC1 := Aside0.mk hc1
  have HC2 := Aside0.mk hc2
  have F0 := Aside0.mk hf0
  have F1 := Aside0.mk hf1
  have F2 := Aside0.mk hf2
  clear h0 h1 h2 hc0 hc1 hc2 hf0 hf1 hf2
  have hu26 := Tryd.underlying26
  have HW1 := Aside0.mk (below_alloc (Below.refl w.heap.size w) (.cells #[.slice A0 l0.length c0, .slice A1 l1.length c1, .slice A2 l2.length c2] 26))
  have HX := Aside0.mk (heap_alloc_new w (.cells #[.slice A0 l0.length c0, .slice A1 l1.length c1, .slice A2 l2.length c2] 26))
  go_enter Tryd.func47, Tryd.ntmps47
  go_upto_region 1 with (fail)
  generalize w.alloc (Obj.cells #[Value.slice A0 l0.length c0, .slice A1 l1.length c1, .slice A2 l2.length c2] 26) = W1 at HW1 HX ⊢
  have PX0 := Aside0.mk ((blk_cell HX.out 0).trans (show _ = some (Value.slice A0 l0.length c0) from rfl))
  have PX1 := Aside0.mk ((blk_cell HX.out 1).trans (show _ = some (Value.slice A1 l1.length c1) from rfl))
  have PX2 := Aside0.mk ((blk_cell HX.out 2).trans (show _ = some (Value.slice A2 l2.length c2) from rfl))
  have q0 := PX0.out
  have q1 := PX1.out
  have q2 := PX2.out
  go_cut [3] (fun v3 wc => v3 = .bool (lenB l0 l1 l2) ∧ Aside0 (Below W1.heap.size W1 wc))
  case first =>
    go_wp2_with ((go_at_call 34; (with_reducible refine (tween_any _ _ _ _).mono ?_); rintro e w2 ⟨rfl, ⟨nd, rfl⟩⟩))
    all_goals
      go_meet
      case rel => exact ⟨by unfold lenB; simp [*], ⟨by repeat (first | exact Below.refl _ _ | apply below_drew | apply pw_below_drewN)⟩⟩
  case rest =>
    obtain ⟨rfl, HB⟩ := hcut
    clear q0 q1 q2
    obtain ⟨b0, hb0⟩ : ∃ b, b = lenB l0 l1 l2 := ⟨_, rfl⟩
    rw [← hb0]
    have G0 := Aside0.mk hb0
    clear hb0
    go_upto_block 0 with (fail)
    go_cut [3] (fun v3 wd => v3 = .bool (chkS l0 b0 l0.length) ∧ Aside0 (Below W1.heap.size W1 wd))
    case first =>
      go_wp2_with (fail)
      go_loopw [3, 4] (fun v3 v4 wr => ∃ i : Nat, i ≤ l0.length ∧ v4 = .int .i64 i ∧ v3 = .bool (chkS l0 b0 i) ∧ Aside0 (Below W1.heap.size W1 wr)) (fun _ i _ => l0.length - (intOf i).toNat)
      case atStart => exact ⟨0, by omega, rfl, rfl, HB⟩
      case round =>
        obtain ⟨i, hi, rfl, rfl, HC⟩ := hrel
        have q0 := pw_cell_below HC.out PX0.out
        have HS := Aside0.mk (show chkS l0 b0 (i + 1) = (chkS l0 b0 i && wthB (rd l0 (i : Nat)) 0 50) from rfl)
        cases hb : chkS l0 b0 i with
        | false =>
          have HV := Aside0.mk (show chkS l0 b0 l0.length = false by have := chkS_false l0 b0 (l0.length - i) i hb; rwa [show i + (l0.length - i) = l0.length by omega] at this)
          clear hb
          go_wp2
          go_meet
          case rel => exact ⟨by rw [HV.out], HC⟩
        | true =>
          rw [hb, Bool.true_and] at HS
          by_cases hil : i < l0.length
          · clear hb
            obtain ⟨ad, e, k0⟩ := Kd.at_int (Kd.C_below (Kd.C_below H0.out HW1.out) HC.out) i (by omega) (by omega)
            cases e
            simp only [Int.toNat_natCast] at k0
            have hwi : IntKind.i64.wrap ((i : Int) + 1) = (i : Int) + 1 := by have := F0.out; rw [IntKind.wrap_i64]; omega
            have hd : decide ((i : Int) < (l0.length : Int)) = true := decide_eq_true (by omega)
            go_wp2_with ((go_at_call 34; (with_reducible refine (tween_any _ _ _ _).mono ?_); rintro e w2 ⟨rfl, ⟨nd, rfl⟩⟩))
            go_roundw
            case rel => exact ⟨i + 1, by omega, by go_num, by rw [HS.out], ⟨by repeat (first | (with_reducible exact HC.out) | apply below_drew | apply pw_below_drewN)⟩⟩
            case measure => simp [intOf]; omega
          · obtain rfl : i = l0.length := by omega
            have HV := Aside0.mk hb
            clear hb
            have hd : decide ((l0.length : Int) < (l0.length : Int)) = false := decide_eq_false (by omega)
            go_wp2
            go_meet
            case rel => exact ⟨by rw [HV.out], HC⟩
    case rest =>
      obtain ⟨rfl, HD⟩ := hcut
      obtain ⟨b1, hb1⟩ : ∃ b, b = chkS l0 b0 l0.length := ⟨_, rfl⟩
      rw [← hb1]
      have G1 := Aside0.mk hb1
      clear hb1
      go_upto_block 2 with (fail)
      go_cut [3] (fun v3 wd => v3 = .bool (chkL l0.length l1 b1 l1.length) ∧ Aside0 (Below W1.heap.size W1 wd))
      case first =>
        go_wp2_with (fail)
        go_loopw [3, 5] (fun v3 v4 wr => ∃ i : Nat, i ≤ l1.length ∧ v4 = .int .i64 i ∧ v3 = .bool (chkL l0.length l1 b1 i) ∧ Aside0 (Below W1.heap.size W1 wr)) (fun _ i _ => l1.length - (intOf i).toNat)
        case atStart => exact ⟨0, by omega, rfl, rfl, HD⟩
        case round =>
          obtain ⟨i, hi, rfl, rfl, HC⟩ := hrel
          have q0 := pw_cell_below HC.out PX1.out
          have HS := Aside0.mk (show chkL l0.length l1 b1 (i + 1) = (chkL l0.length l1 b1 i && lineR l0.length (rd_T47 l1 (i : Nat))) from by rw [lineR_eq]; rfl)
          cases hb : chkL l0.length l1 b1 i with
          | false =>
            have HV := Aside0.mk (show chkL l0.length l1 b1 l1.length = false by have := chkL_false _ _ _ (l1.length - i) i hb; rwa [show i + (l1.length - i) = l1.length by omega] at this)
            clear hb
            go_wp2
            go_meet
            case rel => exact ⟨by rw [HV.out], HC⟩
          | true =>
            rw [hb, Bool.true_and] at HS
            by_cases hil : i < l1.length
            · clear hb
              obtain ⟨ad, e, k0, k1, k2, k3, k4⟩ := at_T47 (Kd.C_below (Kd.C_below H1.out HW1.out) HC.out) i (by omega) (by omega)
              cases e
              simp only [Int.toNat_natCast] at k0 k1 k2 k3 k4
              have hwi : IntKind.i64.wrap ((i : Int) + 1) = (i : Int) + 1 := by have := F1.out; rw [IntKind.wrap_i64]; omega
              have hd : decide ((i : Int) < (l1.length : Int)) = true := decide_eq_true (by omega)
              have HXA := heap_alloc_new wr (.cells #[.int .i64 (rd_T47 l1 i).f0, .int .i64 (rd_T47 l1 i).f1, .int .i64 (rd_T47 l1 i).f2, .int .i64 (rd_T47 l1 i).f3, .int .i64 (rd_T47 l1 i).f4] 47)
              have HEA := Aside0.mk (below_alloc HC.out (.cells #[.int .i64 (rd_T47 l1 i).f0, .int .i64 (rd_T47 l1 i).f1, .int .i64 (rd_T47 l1 i).f2, .int .i64 (rd_T47 l1 i).f3, .int .i64 (rd_T47 l1 i).f4] 47))
              go_upto_region 10 with (fail)
              generalize wr.alloc (.cells #[.int .i64 (rd_T47 l1 i).f0, .int .i64 (rd_T47 l1 i).f1, .int .i64 (rd_T47 l1 i).f2, .int .i64 (rd_T47 l1 i).f3, .int .i64 (rd_T47 l1 i).f4] 47) = W8 at HXA HEA ⊢
              clear k0 k1 k2 k3 k4 q0
              have m0 := (blk_cell HXA 0).trans (show _ = some (Value.int .i64 (rd_T47 l1 i).f0) from rfl)
              have m1 := (blk_cell HXA 1).trans (show _ = some (Value.int .i64 (rd_T47 l1 i).f1) from rfl)
              have m2 := (blk_cell HXA 2).trans (show _ = some (Value.int .i64 (rd_T47 l1 i).f2) from rfl)
              have m3 := (blk_cell HXA 3).trans (show _ = some (Value.int .i64 (rd_T47 l1 i).f3) from rfl)
              have m4 := (blk_cell HXA 4).trans (show _ = some (Value.int .i64 (rd_T47 l1 i).f4) from rfl)
              clear HXA
              have y0 := pw_cell_below HEA.out PX0.out
              have y1 := pw_cell_below HEA.out PX1.out
              have y2 := pw_cell_below HEA.out PX2.out
              go_wp2_with (first | (go_at_call 34; (with_reducible refine (tween_any _ _ _ _).mono ?_); rintro e w2 ⟨rfl, ⟨nd, rfl⟩⟩) | (go_at_call 71; (with_reducible refine (good_any _ _ _ c0 c1 c2 l0 l1 l2 _ _ (Kd.C_below (Kd.C_below H0.out HW1.out) (by repeat (first | (with_reducible exact HEA.out) | apply below_drew | apply pw_below_drewN))) HC0.out (Kd.C_below (Kd.C_below H1.out HW1.out) (by repeat (first | (with_reducible exact HEA.out) | apply below_drew | apply pw_below_drewN))) HC1.out (Kd.C_below (Kd.C_below H2.out HW1.out) (by repeat (first | (with_reducible exact HEA.out) | apply below_drew | apply pw_below_drewN))) HC2.out F0.out).mono ?_); rintro e w3 ⟨rfl, hb3⟩; have m1 := pw_cell_below hb3 (a := ⟨wr.heap.size, 1, none⟩) (v := .int .i64 (rd_T47 l1 i).f1) (by simpa using m1); have m2 := pw_cell_below hb3 (a := ⟨wr.heap.size, 2, none⟩) (v := .int .i64 (rd_T47 l1 i).f2) (by simpa using m2); have m3 := pw_cell_below hb3 (a := ⟨wr.heap.size, 3, none⟩) (v := .int .i64 (rd_T47 l1 i).f3) (by simpa using m3); have m4 := pw_cell_below hb3 (a := ⟨wr.heap.size, 4, none⟩) (v := .int .i64 (rd_T47 l1 i).f4) (by simpa using m4); have y0 := pw_cell_below hb3 (a := ⟨w.heap.size, 0, none⟩) (v := .slice A0 l0.length c0) (by simpa using y0); have y1 := pw_cell_below hb3 (a := ⟨w.heap.size, 1, none⟩) (v := .slice (some ad) l1.length c1) (by simpa using y1); have y2 := pw_cell_below hb3 (a := ⟨w.heap.size, 2, none⟩) (v := .slice A2 l2.length c2) (by simpa using y2); have HEA := Aside0.mk (below_step (by repeat (first | (with_reducible exact HEA.out) | apply below_drew | apply pw_below_drewN)) hb3); clear hb3))
              all_goals
                go_roundw
                case rel => exact ⟨i + 1, by omega, by go_num, by rw [HS.out]; unfold lineR; simp [*], ⟨by repeat (first | (with_reducible exact HEA.out) | apply below_alloc | apply below_drew | apply pw_below_drewN)⟩⟩
                case measure => simp [intOf]; omega
            · obtain rfl : i = l1.length := by omega
              have HV := Aside0.mk hb
              clear hb
              have hd : decide ((l1.length : Int) < (l1.length : Int)) = false := decide_eq_false (by omega)
              go_wp2
              go_meet
              case rel => exact ⟨by rw [HV.out], HC⟩
      case rest =>
        obtain ⟨rfl, HD⟩ := hcut
        obtain ⟨b2, hb2⟩ : ∃ b, b = chkL l0.length l1 b1 l1.length := ⟨_, rfl⟩
        rw [← hb2]
        have G2 := Aside0.mk hb2
        clear hb2
        go_upto_block 4 with (fail)
        go_cut [3] (fun v3 wd => v3 = .bool (chkD l0.length l2 b2 l2.length) ∧ Aside0 (Below W1.heap.size W1 wd))
        case first =>
          go_wp2_with (fail)
          go_loopw [3, 7] (fun v3 v4 wr => ∃ i : Nat, i ≤ l2.length ∧ v4 = .int .i64 i ∧ v3 = .bool (chkD l0.length l2 b2 i) ∧ Aside0 (Below W1.heap.size W1 wr)) (fun _ i _ => l2.length - (intOf i).toNat)
          case atStart => exact ⟨0, by omega, rfl, rfl, HD⟩
          case round =>
            obtain ⟨i, hi, rfl, rfl, HC⟩ := hrel
            have q0 := pw_cell_below HC.out PX2.out
            have HS := Aside0.mk (show chkD l0.length l2 b2 (i + 1) = (chkD l0.length l2 b2 i && delB l0.length (rd_T57 l2 (i : Nat))) from rfl)
            cases hb : chkD l0.length l2 b2 i with
            | false =>
              have HV := Aside0.mk (show chkD l0.length l2 b2 l2.length = false by have := chkD_false _ _ _ (l2.length - i) i hb; rwa [show i + (l2.length - i) = l2.length by omega] at this)
              clear hb
              go_wp2
              go_meet
              case rel => exact ⟨by rw [HV.out], HC⟩
            | true =>
              rw [hb, Bool.true_and] at HS
              by_cases hil : i < l2.length
              · clear hb
                obtain ⟨ad, e, k0, k1, k2, k3, k4⟩ := at_T57 (Kd.C_below (Kd.C_below H2.out HW1.out) HC.out) i (by omega) (by omega)
                cases e
                simp only [Int.toNat_natCast] at k0 k1 k2 k3 k4
                have hwi : IntKind.i64.wrap ((i : Int) + 1) = (i : Int) + 1 := by have := F2.out; rw [IntKind.wrap_i64]; omega
                have hd : decide ((i : Int) < (l2.length : Int)) = true := decide_eq_true (by omega)
                have HXA := heap_alloc_new wr (.cells #[.int .i64 (rd_T57 l2 i).f0, .int .i64 (rd_T57 l2 i).f1.f0, .int .i64 (rd_T57 l2 i).f1.f1, .int .i64 (rd_T57 l2 i).f2.f0, .int .i64 (rd_T57 l2 i).f2.f1] 57)
                have HEA := Aside0.mk (below_alloc HC.out (.cells #[.int .i64 (rd_T57 l2 i).f0, .int .i64 (rd_T57 l2 i).f1.f0, .int .i64 (rd_T57 l2 i).f1.f1, .int .i64 (rd_T57 l2 i).f2.f0, .int .i64 (rd_T57 l2 i).f2.f1] 57))
                go_upto_region 15 with (fail)
                generalize wr.alloc (.cells #[.int .i64 (rd_T57 l2 i).f0, .int .i64 (rd_T57 l2 i).f1.f0, .int .i64 (rd_T57 l2 i).f1.f1, .int .i64 (rd_T57 l2 i).f2.f0, .int .i64 (rd_T57 l2 i).f2.f1] 57) = W8 at HXA HEA ⊢
                clear k0 k1 k2 k3 k4 q0
                have m0 := (blk_cell HXA 0).trans (show _ = some (Value.int .i64 (rd_T57 l2 i).f0) from rfl)
                have m1 := (blk_cell HXA 1).trans (show _ = some (Value.int .i64 (rd_T57 l2 i).f1.f0) from rfl)
                have m2 := (blk_cell HXA 2).trans (show _ = some (Value.int .i64 (rd_T57 l2 i).f1.f1) from rfl)
                have m3 := (blk_cell HXA 3).trans (show _ = some (Value.int .i64 (rd_T57 l2 i).f2.f0) from rfl)
                have m4 := (blk_cell HXA 4).trans (show _ = some (Value.int .i64 (rd_T57 l2 i).f2.f1) from rfl)
                clear HXA
                have y0 := pw_cell_below HEA.out PX0.out
                have y1 := pw_cell_below HEA.out PX1.out
                have y2 := pw_cell_below HEA.out PX2.out
                go_wp2_with (first | (go_at_call 65; (with_reducible first | (refine (proper_any (rd_T57 l2 i).f1 _ _ _).mono ?_) | (refine (proper_any (rd_T57 l2 i).f2 _ _ _).mono ?_)); rintro e w3 ⟨rfl, hb3⟩; have m3 := pw_cell_below hb3 (a := ⟨wr.heap.size, 3, none⟩) (v := .int .i64 (rd_T57 l2 i).f2.f0) (by simpa using m3); have m4 := pw_cell_below hb3 (a := ⟨wr.heap.size, 4, none⟩) (v := .int .i64 (rd_T57 l2 i).f2.f1) (by simpa using m4); have HEA := Aside0.mk (below_step (by repeat (first | (with_reducible exact HEA.out) | apply below_drew | apply pw_below_drewN)) hb3); clear hb3) | (go_at_call 71; (with_reducible refine (good_any _ _ _ c0 c1 c2 l0 l1 l2 _ _ (Kd.C_below (Kd.C_below H0.out HW1.out) (by repeat (first | (with_reducible exact HEA.out) | apply below_drew | apply pw_below_drewN))) HC0.out (Kd.C_below (Kd.C_below H1.out HW1.out) (by repeat (first | (with_reducible exact HEA.out) | apply below_drew | apply pw_below_drewN))) HC1.out (Kd.C_below (Kd.C_below H2.out HW1.out) (by repeat (first | (with_reducible exact HEA.out) | apply below_drew | apply pw_below_drewN))) HC2.out F0.out).mono ?_); rintro e w3 ⟨rfl, hb3⟩; have m1 := pw_cell_below hb3 (a := ⟨wr.heap.size, 1, none⟩) (v := .int .i64 (rd_T57 l2 i).f1.f0) (by simpa using m1); have m2 := pw_cell_below hb3 (a := ⟨wr.heap.size, 2, none⟩) (v := .int .i64 (rd_T57 l2 i).f1.f1) (by simpa using m2); have m3 := pw_cell_below hb3 (a := ⟨wr.heap.size, 3, none⟩) (v := .int .i64 (rd_T57 l2 i).f2.f0) (by simpa using m3); have m4 := pw_cell_below hb3 (a := ⟨wr.heap.size, 4, none⟩) (v := .int .i64 (rd_T57 l2 i).f2.f1) (by simpa using m4); have HEA := Aside0.mk (below_step (by repeat (first | (with_reducible exact HEA.out) | apply below_drew | apply pw_below_drewN)) hb3); clear hb3))
                all_goals
                  go_roundw
                  case rel => exact ⟨i + 1, by omega, by go_num, by rw [HS.out]; unfold delB; simp [*], ⟨by repeat (first | (with_reducible exact HEA.out) | apply below_alloc | apply below_drew | apply pw_below_drewN)⟩⟩
                  case measure => simp [intOf]; omega
              · obtain rfl : i = l2.length := by omega
                have HV := Aside0.mk hb
                clear hb
                have hd : decide ((l2.length : Int) < (l2.length : Int)) = false := decide_eq_false (by omega)
                go_wp2
                go_meet
                case rel => exact ⟨by rw [HV.out], HC⟩
        case rest =>
          obtain ⟨rfl, HD⟩ := hcut
          have he : chkD l0.length l2 (chkL l0.length l1 (chkS l0 (lenB l0 l1 l2) l0.length) l1.length) l2.length = chkD l0.length l2 b2 l2.length := by rw [← G0.out, ← G1.out, ← G2.out]
          obtain ⟨b3, hb3⟩ : ∃ b, b = chkD l0.length l2 b2 l2.length := ⟨_, rfl⟩
          rw [← hb3]
          rw [← hb3] at he
          have HE3 := Aside0.mk he
          clear he hb3
          cases b3 with
          | true =>
            go_wp2
            go_ret
            exact ⟨by rw [HE3.out]; rfl, below_step HW1.out HD.out⟩
          | false =>
            go_wp2
            go_ret
            exact ⟨by rw [HE3.out]; rfl, below_step HW1.out HD.out⟩
theorem wishbookref10_Check.calls (A0 : Option Addr) (c0 : Nat) (l0 : List Int) (A1 : Option Addr) (c1 : Nat) (l1 : List S47) (A2 : Option Addr) (c2 : Nat) (l2 : List S57) (r : Int) (w : World)
    (h0 : Kd.C (Kd.int .i64) w A0 l0.length l0) (hc0 : l0.length ≤ c0) (h1 : Kd.C k47 w A1 l1.length l1) (hc1 : l1.length ≤ c1) (h2 : Kd.C k57 w A2 l2.length l2) (hc2 : l2.length ≤ c2) (h : wishbookref10_Check.f l0 l1 l2 = some r) :
    Calls Tryd.prog 47 #[.agg #[.slice A0 l0.length c0, .slice A1 l1.length c1, .slice A2 l2.length c2]] w fun e w' => e = .returned (.int .i64 r) ∧ Below w.heap.size w w' := by
  unfold wishbookref10_Check.f at h
  by_cases hf : Few l0 l1 l2
  · rw [if_pos hf] at h
    cases h
    exact (RCheck_walk A0 A1 A2 c0 c1 c2 l0 l1 l2 w h0 hc0 h1 hc1 h2 hc2 hf.1 hf.2.1 hf.2.2).mono fun e w' ⟨he, hb⟩ => ⟨by rw [he, chk_ok], hb⟩
  · rw [if_neg hf] at h
    cases h
/-- What the program's Check says. -/
def lack_Check.f (l0 : List Int) (l1 : List S47) (l2 : List S57) : Option Int := if Few l0 l1 l2 then some (chkV (okB l0 l1 l2)) else none
theorem lack_Check.calls (A0 : Option Addr) (c0 : Nat) (l0 : List Int) (A1 : Option Addr) (c1 : Nat) (l1 : List S47) (A2 : Option Addr) (c2 : Nat) (l2 : List S57) (r : Int) (w : World)
    (h0 : Kd.C (Kd.int .i64) w A0 l0.length l0) (hc0 : l0.length ≤ c0) (h1 : Kd.C k47 w A1 l1.length l1) (hc1 : l1.length ≤ c1) (h2 : Kd.C k57 w A2 l2.length l2) (hc2 : l2.length ≤ c2) (h : lack_Check.f l0 l1 l2 = some r) :
    Calls Tryd.prog 44 #[.agg #[.slice A0 l0.length c0, .slice A1 l1.length c1, .slice A2 l2.length c2]] w fun e w' => e = .returned (.int .i64 r) ∧ Below w.heap.size w w' := by
  unfold lack_Check.f at h
  by_cases hf : Few l0 l1 l2
  · rw [if_pos hf] at h
    cases h
    exact (Check_calls A0 A1 A2 c0 c1 c2 l0 l1 l2 w h0 hc0 h1 hc1 h2 hc2 hf)
  · rw [if_neg hf] at h
    cases h
end Go.Proofs.YtegpepnmnlockaaDoor.PL
namespace Go.Proofs.YtegpepnmnlockaaDoor.PL
open Go.RowKit Go.Proofs.YtegpepnmnlockaaDoorW.PrintWords Go.Proofs.YtegpepnmnlockaaDoorW.PrintLast Go.Proofs.YtegpepnmnlockaaDoorW.PrintMore
attribute [local go_sem] max2_int min2_int max_two min_two max_three min_three max_four min_four   -- for this text's walks alone
set_option linter.unusedVariables false
set_option linter.unusedSimpArgs false
attribute [local go_sem high] eqA49
def wishbookref00_Match.l0 : Nat → List Int → List Int → Bool → Int → Option (Bool)
  | 0, _, _, _, _ => none
  | k + 1, x0, x1, x5, x6 => if x5 = true then (if x6 < (x0.length : Int) then (if 0 ≤ x6 then (if x6 < (x1.length : Int) then (wishbookref00_Match.l0 k x0 x1 ((rd x0 x6) == (rd x1 x6)) (wrap64 (x6 + 1))) else (none)) else (none)) else (some x5)) else (some x5)
def wishbookref00_Match.f (k : Nat) (l0 : List Int) (l1 : List Int) : Option (Bool) := wishbookref00_Match.l0 k l0 l1 ((l0.length : Int) == (l1.length : Int)) 0
theorem wishbookref00_Match.mono_l : ∀ k, (∀ y0 y1 y2 y3, LeO (wishbookref00_Match.l0 k y0 y1 y2 y3) (wishbookref00_Match.l0 (k + 1) y0 y1 y2 y3))
  | 0 => fun _ _ _ _ r h => by simp [wishbookref00_Match.l0] at h
  | k + 1 => by
    have ih0 := wishbookref00_Match.mono_l k
    · intro y0 y1 y2 y3
      unfold wishbookref00_Match.l0
      repeat' first
      | (with_reducible exact ih0 _ _ _ _)
      | (with_reducible exact LeO.refl _)
      | (with_reducible exact LeO.none _)
      | (with_reducible refine LeO.ite ?_ ?_)
      | (with_reducible refine LeO.bind ?_ (fun _ => ?_))
      | exact ih0 _ _ _ _
      | exact LeO.none _
      | refine LeO.ite ?_ ?_
      | refine LeO.bind ?_ (fun _ => ?_)
theorem wishbookref00_Match.mono : ∀ a0 a1 k, LeO (wishbookref00_Match.f k a0 a1) (wishbookref00_Match.f (k + 1) a0 a1) := by
  intro a0 a1 k
  have ih0 := wishbookref00_Match.mono_l k
  unfold wishbookref00_Match.f
  repeat' first
      | (with_reducible exact ih0 _ _ _ _)
      | (with_reducible exact LeO.refl _)
      | (with_reducible exact LeO.none _)
      | (with_reducible refine LeO.ite ?_ ?_)
      | (with_reducible refine LeO.bind ?_ (fun _ => ?_))
      | exact ih0 _ _ _ _
      | exact LeO.none _
      | refine LeO.ite ?_ ?_
      | refine LeO.bind ?_ (fun _ => ?_)
set_option maxHeartbeats 8000000 in
set_option maxRecDepth 100000 in
theorem wishbookref00_Match.calls (k : Nat) (A0 : Option Addr) (c0 : Nat) (l0 : List Int) (A1 : Option Addr) (c1 : Nat) (l1 : List Int) (r : Bool) (w : World) (hr0 : Kd.C (Kd.int .i64) w A0 l0.length l0) (hc0 : l0.length ≤ c0) (hr1 : Kd.C (Kd.int .i64) w A1 l1.length l1) (hc1 : l1.length ≤ c1) (h : wishbookref00_Match.f k l0 l1 = some r) :
    Calls Tryd.prog 16 #[.slice A0 l0.length c0, .slice A1 l1.length c1] w fun e w' => e = .returned (.bool r) ∧ Drawn0 w w' := by
  have HR0 := Aside0.mk hr0
  have HC0 := Aside0.mk hc0
  clear hr0 hc0
  have HR1 := Aside0.mk hr1
  have HC1 := Aside0.mk hc1
  clear hr1 hc1
  have H : (wishbookref00_Match.l0 k l0 l1 ((l0.length : Int) == (l1.length : Int)) 0) = some r := h
  clear h
  have H' := Aside0.mk H
  clear H
  go_enter Tryd.func16, Tryd.ntmps16
  go_wp2
  repeat (go_quiet (fail); try go_wp2)
  go_loopg [5, 6] k (fun kq v5 v6 w' => ∃ (x5_1 : Bool) (x6_1 : Int), v5 = .bool x5_1 ∧ v6 = .int .i64 x6_1 ∧ Aside0 (wishbookref00_Match.l0 kq l0 l1 x5_1 x6_1 = some r) ∧ Aside0 (kq ≤ k) ∧ Drawn0 w w')
  case atStart => exact ⟨(((l0.length : Int) == (l1.length : Int))), (0), (by first | rfl | (simp; done) | (simp [*]; done)), (by first | rfl | (simp; done) | (simp [*]; done)), H', ⟨Nat.le_refl _⟩, by repeat (first | exact Drawn0.refl _ | apply Drawn0.step)⟩
  case round =>
    clear H'
    try clear c1
    try clear p2
    obtain ⟨x5_1, x6_1, rfl, rfl, HA, HK1, ⟨m1, rfl⟩⟩ := hrel
    cases gk with
    | zero => exact absurd HA.out (by simp [wishbookref00_Match.l0])
    | succ k1 =>
      have H := HA.out
      clear HA
      simp only [wishbookref00_Match.l0] at H
      by_cases c3 : x5_1 = true
      · subst c3
        have H1 : (if x6_1 < (l0.length : Int) then (if 0 ≤ x6_1 then (if x6_1 < (l1.length : Int) then (wishbookref00_Match.l0 k1 l0 l1 ((rd l0 x6_1) == (rd l1 x6_1)) (wrap64 (x6_1 + 1))) else (none)) else (none)) else (some true)) = some r := by rw [if_pos rfl] at H; exact H
        clear H
        have H := H1
        clear H1
        by_cases c4 : x6_1 < (l0.length : Int)
        · rw [if_pos c4] at H
          have c4b0 : decide (x6_1 < (l0.length : Int)) = true := decide_eq_true c4
          clear c4
          by_cases c5 : 0 ≤ x6_1
          · rw [if_pos c5] at H
            have c5b0 : decide (0 ≤ x6_1) = true := decide_eq_true c5
            clear c5
            by_cases c6 : x6_1 < (l1.length : Int)
            · rw [if_pos c6] at H
              have c6b0 : decide (x6_1 < (l1.length : Int)) = true := decide_eq_true c6
              clear c6
              have H' := Aside0.mk H
              clear H
              have p145 : 0 ≤ (x6_1 : Int) := of_decide_eq_true (by first | (with_reducible assumption) | assumption)
              have q145 : x6_1 < (l0.length : Int) := of_decide_eq_true (by first | (with_reducible assumption) | assumption)
              obtain ⟨ad145, e145, hx145_0⟩ := Kd.at_int HR0.out x6_1 p145 q145
              cases e145
              replace p145 := eq_true p145
              replace q145 := eq_true q145
              have p146 : 0 ≤ (x6_1 : Int) := of_decide_eq_true (by first | (with_reducible assumption) | assumption)
              have q146 : x6_1 < (l1.length : Int) := of_decide_eq_true (by first | (with_reducible assumption) | assumption)
              obtain ⟨ad146, e146, hx146_0⟩ := Kd.at_int HR1.out x6_1 p146 q146
              cases e146
              replace p146 := eq_true p146
              replace q146 := eq_true q146
              go_wp2
              repeat (go_quiet (fail); try go_wp2)
              go_roundg k1
              case measure => have := HK1.out; omega
              case rel => exact ⟨(((rd l0 x6_1) == (rd l1 x6_1))), (wrap64 (x6_1 + 1)), (by first | rfl | (simp; done) | (simp [*]; done)), (by first | rfl | (simp; done) | (simp [*]; done)), H', ⟨by have := HK1.out; omega⟩, by repeat (first | exact Drawn0.refl _ | apply Drawn0.step)⟩
            · rw [if_neg c6] at H
              exact absurd H (by simp)
          · rw [if_neg c5] at H
            exact absurd H (by simp)
        · rw [if_neg c4] at H
          have c4b0 : decide (x6_1 < (l0.length : Int)) = false := decide_eq_false c4
          clear c4
          obtain rfl := Option.some.inj H
          go_wp2
          repeat (go_quiet (fail); try go_wp2)
          go_ret
          exact ⟨by first | rfl | (simp; done) | (simp [*]; done), by repeat (first | exact Drawn0.refl _ | apply Drawn0.step)⟩
      · replace c3 := Bool.eq_false_iff.mpr c3
        subst c3
        have H1 : (some false) = some r := by rw [if_neg (show ¬ (false = true) by decide)] at H; exact H
        clear H
        have H := H1
        clear H1
        obtain rfl := Option.some.inj H
        go_wp2
        repeat (go_quiet (fail); try go_wp2)
        go_ret
        exact ⟨by first | rfl | (simp; done) | (simp [*]; done), by repeat (first | exact Drawn0.refl _ | apply Drawn0.step)⟩
mutual
def wishbookref10_Whole.l0 : Nat → List (S49) → List Int → Int → List Int → List (S47) → List (S57) → Option (List Int × Int)
  | 0, _, _, _, _, _, _ => none
  | k + 1, x5, x7, x8, x148000, x148001, x148002 => if x8 ≤ 9 then (wishbookref10_Whole.l1 k x5 x7 x8 false true 0 x148000 x148001 x148002) else (some (x7, 0))
def wishbookref10_Whole.l1 : Nat → List (S49) → List Int → Int → Bool → Bool → Int → List Int → List (S47) → List (S57) → Option (List Int × Int)
  | 0, _, _, _, _, _, _, _, _, _ => none
  | k + 1, x5, x7, x8, x9, x10, x11, x148000, x148001, x148002 => if x11 < (x5.length : Int) then (if 0 ≤ x11 then (if x11 < (x148001.length : Int) then (if ((rd_T47 x148001 x11).f0) = x8 then (if x10 = true then (if ((rd_T49 x5 x11).f2) = 0 then (wishbookref10_Whole.l1 k x5 x7 x8 true (((rd_T49 x5 x11).f3) == 0) (wrap64 (x11 + 1)) x148000 x148001 x148002) else (wishbookref10_Whole.l1 k x5 x7 x8 true false (wrap64 (x11 + 1)) x148000 x148001 x148002)) else (wishbookref10_Whole.l1 k x5 x7 x8 true false (wrap64 (x11 + 1)) x148000 x148001 x148002)) else (wishbookref10_Whole.l1 k x5 x7 x8 x9 x10 (wrap64 (x11 + 1)) x148000 x148001 x148002)) else (none)) else (none)) else (if x9 = true then (if x10 = true then (if x7.length < 17592186044416 then (wishbookref10_Whole.l0 k x5 (x7 ++ [x8]) (wrap64 (x8 + 1)) x148000 x148001 x148002) else (none)) else (wishbookref10_Whole.l0 k x5 x7 (wrap64 (x8 + 1)) x148000 x148001 x148002)) else (wishbookref10_Whole.l0 k x5 x7 (wrap64 (x8 + 1)) x148000 x148001 x148002))
end
def wishbookref10_Whole.f (k : Nat) (l0_0 : List Int) (l0_1 : List (S47)) (l0_2 : List (S57)) : Option (List Int × Int) := (wishbookref10_Check.f l0_0 l0_1 l0_2).bind fun t148 => (if t148 = 0 then ((wishbookref10_served.f l0_0 l0_1 l0_2).bind fun bt149 => (wishbookref10_Whole.l0 k bt149.1 ([] : List Int) 0 l0_0 l0_1 l0_2)) else (some (([] : List Int), t148)))
theorem wishbookref10_Whole.mono_l : ∀ k, (∀ y0 y1 y2 y3 y4 y5, LeO (wishbookref10_Whole.l0 k y0 y1 y2 y3 y4 y5) (wishbookref10_Whole.l0 (k + 1) y0 y1 y2 y3 y4 y5)) ∧ (∀ y0 y1 y2 y3 y4 y5 y6 y7 y8, LeO (wishbookref10_Whole.l1 k y0 y1 y2 y3 y4 y5 y6 y7 y8) (wishbookref10_Whole.l1 (k + 1) y0 y1 y2 y3 y4 y5 y6 y7 y8))
  | 0 => ⟨fun _ _ _ _ _ _ r h => by simp [wishbookref10_Whole.l0] at h, fun _ _ _ _ _ _ _ _ _ r h => by simp [wishbookref10_Whole.l1] at h⟩
  | k + 1 => by
    obtain ⟨ih0, ih1⟩ := wishbookref10_Whole.mono_l k
    refine ⟨?_, ?_⟩
    · intro y0 y1 y2 y3 y4 y5
      unfold wishbookref10_Whole.l0
      repeat' first
      | (with_reducible exact ih0 _ _ _ _ _ _)
      | (with_reducible exact ih1 _ _ _ _ _ _ _ _ _)
      | (with_reducible exact LeO.refl _)
      | (with_reducible exact LeO.none _)
      | (with_reducible refine LeO.ite ?_ ?_)
      | (with_reducible refine LeO.bind ?_ (fun _ => ?_))
      | exact ih0 _ _ _ _ _ _
      | exact ih1 _ _ _ _ _ _ _ _ _
      | exact LeO.none _
      | refine LeO.ite ?_ ?_
      | refine LeO.bind ?_ (fun _ => ?_)
    · intro y0 y1 y2 y3 y4 y5 y6 y7 y8
      unfold wishbookref10_Whole.l1
      repeat' first
      | (with_reducible exact ih0 _ _ _ _ _ _)
      | (with_reducible exact ih1 _ _ _ _ _ _ _ _ _)
      | (with_reducible exact LeO.refl _)
      | (with_reducible exact LeO.none _)
      | (with_reducible refine LeO.ite ?_ ?_)
      | (with_reducible refine LeO.bind ?_ (fun _ => ?_))
      | exact ih0 _ _ _ _ _ _
      | exact ih1 _ _ _ _ _ _ _ _ _
      | exact LeO.none _
      | refine LeO.ite ?_ ?_
      | refine LeO.bind ?_ (fun _ => ?_)
theorem wishbookref10_Whole.mono : ∀ a0 a1 a2 k, LeO (wishbookref10_Whole.f k a0 a1 a2) (wishbookref10_Whole.f (k + 1) a0 a1 a2) := by
  intro a0 a1 a2 k
  obtain ⟨ih0, ih1⟩ := wishbookref10_Whole.mono_l k
  unfold wishbookref10_Whole.f
  repeat' first
      | (with_reducible exact ih0 _ _ _ _ _ _)
      | (with_reducible exact ih1 _ _ _ _ _ _ _ _ _)
      | (with_reducible exact LeO.refl _)
      | (with_reducible exact LeO.none _)
      | (with_reducible refine LeO.ite ?_ ?_)
      | (with_reducible refine LeO.bind ?_ (fun _ => ?_))
      | exact ih0 _ _ _ _ _ _
      | exact ih1 _ _ _ _ _ _ _ _ _
      | exact LeO.none _
      | refine LeO.ite ?_ ?_
      | refine LeO.bind ?_ (fun _ => ?_)
set_option maxHeartbeats 8000000 in
set_option maxRecDepth 100000 in
theorem wishbookref10_Whole.calls (k : Nat) (A0_0 : Option Addr) (c0_0 : Nat) (l0_0 : List Int) (A0_1 : Option Addr) (c0_1 : Nat) (l0_1 : List (S47)) (A0_2 : Option Addr) (c0_2 : Nat) (l0_2 : List (S57)) (r1 : List Int) (r2 : Int) (w : World) (hr0_0 : Kd.C (Kd.int .i64) w A0_0 l0_0.length l0_0) (hc0_0 : l0_0.length ≤ c0_0) (hr0_1 : Kd.C k47 w A0_1 l0_1.length l0_1) (hc0_1 : l0_1.length ≤ c0_1) (hr0_2 : Kd.C k57 w A0_2 l0_2.length l0_2) (hc0_2 : l0_2.length ≤ c0_2) (h : wishbookref10_Whole.f k l0_0 l0_1 l0_2 = some (r1, r2)) :
    Calls Tryd.prog 18 #[.agg #[.slice A0_0 l0_0.length c0_0, .slice A0_1 l0_1.length c0_1, .slice A0_2 l0_2.length c0_2]] w fun e w' => ∃ v0_ : Value, e = .returned (.tuple #[v0_, .int .i64 r2]) ∧ Kd.R (Kd.int .i64) 3 w' w.heap.size (fun _ => True) v0_ r1 ∧ Below w.heap.size w w' := by
  have hu26 := Tryd.underlying26
  have HR0_0 := Aside0.mk hr0_0
  have HC0_0 := Aside0.mk hc0_0
  clear hr0_0 hc0_0
  have HR0_1 := Aside0.mk hr0_1
  have HC0_1 := Aside0.mk hc0_1
  clear hr0_1 hc0_1
  have HR0_2 := Aside0.mk hr0_2
  have HC0_2 := Aside0.mk hc0_2
  clear hr0_2 hc0_2
  have HB := Aside0.mk (Below.refl w.heap.size w)
  have H : ((wishbookref10_Check.f l0_0 l0_1 l0_2).bind fun t148 => (if t148 = 0 then ((wishbookref10_served.f l0_0 l0_1 l0_2).bind fun bt149 => (wishbookref10_Whole.l0 k bt149.1 ([] : List Int) 0 l0_0 l0_1 l0_2)) else (some (([] : List Int), t148)))) = some (r1, r2) := h
  clear h
  replace H := Option.bind_eq_some_iff.mp H
  obtain ⟨t148, A20, H⟩ := H
  replace H : (if t148 = 0 then ((wishbookref10_served.f l0_0 l0_1 l0_2).bind fun bt149 => (wishbookref10_Whole.l0 k bt149.1 ([] : List Int) 0 l0_0 l0_1 l0_2)) else (some (([] : List Int), t148))) = some (r1, r2) := H
  have A2 := Aside0.mk A20
  clear A20
  by_cases c3 : t148 = 0
  · rw [if_pos c3] at H
    have c3b0 : (t148 == 0) = true := beq_iff_eq.mpr c3
    have c3b1 : (t148 != 0) = false := bne_eq_false_iff_eq.mpr c3
    clear c3
    replace H := Option.bind_eq_some_iff.mp H
    obtain ⟨⟨t149, t152⟩, A40, H⟩ := H
    replace H : (wishbookref10_Whole.l0 k t149 ([] : List Int) 0 l0_0 l0_1 l0_2) = some (r1, r2) := H
    have A4 := Aside0.mk A40
    clear A40
    have H' := Aside0.mk H
    clear H
    go_enter Tryd.func18, Tryd.ntmps18
    go_wp2_with (first | ((with_reducible refine gate_dst (N := 1) rfl ?_); refine box_event ?hg (N := 1) ?hd (cs := #[.slice A0_0 l0_0.length c0_0, .slice A0_1 l0_1.length c0_1, .slice A0_2 l0_2.length c0_2]) (t := 26) ?hr ?_; (case hd => rfl); (case hg => rfl); (case hr => first | (go_simp; done) | (go_simp; rfl)); intro gb147 hg w5 hbox hb; have n0_ := Aside0.mk (below_step (by repeat (first | (with_reducible first | exact HB.out | apply below_alloc | apply pw_below_drewN | apply below_drew1) | exact HB.out)) hb); have n1_ := Aside0.mk (hbox); have n2_ := Aside0.mk ((by rw [hg]; exact (below_size (by repeat (first | (with_reducible first | exact HB.out | apply below_alloc | apply pw_below_drewN | apply below_drew1) | exact HB.out))) : w.heap.size ≤ gb147)); have n3_ := Aside0.mk ((by rw [hg]; exact (below_size (by repeat (first | (with_reducible first | exact HB.out | apply below_alloc | apply pw_below_drewN | apply below_drew1) | exact HB.out))) : w.heap.size ≤ gb147)); clear HB; have HB := n0_; have BK147 := n1_; have GW147 := n2_; have GE147 := n3_; clear n0_ n1_ n2_ n3_; clear hb hbox hg; have hcz6_0 : w5.cell? ⟨gb147, 0, none⟩ = some (.slice A0_0 l0_0.length c0_0) := (blk_cell BK147.out 0).trans rfl; have hcz6_1 : w5.cell? ⟨gb147, 1, none⟩ = some (.slice A0_1 l0_1.length c0_1) := (blk_cell BK147.out 1).trans rfl; have hcz6_2 : w5.cell? ⟨gb147, 2, none⟩ = some (.slice A0_2 l0_2.length c0_2) := (blk_cell BK147.out 2).trans rfl; have hfz6_0 := blk_frozen BK147.out 0; have hfz6_1 := blk_frozen BK147.out 1; have hfz6_2 := blk_frozen BK147.out 2) | (go_at_call 47; (with_reducible refine (wishbookref10_Check.calls _ _ l0_0 _ _ l0_1 _ _ l0_2 t148 _ ?side1 ?side2 ?side3 ?side4 ?side5 ?side6 A2.out).mono ?_); (case side1 => repeat (first | exact (Kd.C_below HR0_0.out HB.out) | (with_reducible refine Kd.C_alloc ?_ _) | (with_reducible refine Kd.C_drewN ?_ _) | (with_reducible refine Kd.C_drew ?_))); (case side2 => exact HC0_0.out); (case side3 => repeat (first | exact (Kd.C_below HR0_1.out HB.out) | (with_reducible refine Kd.C_alloc ?_ _) | (with_reducible refine Kd.C_drewN ?_ _) | (with_reducible refine Kd.C_drew ?_))); (case side4 => exact HC0_1.out); (case side5 => repeat (first | exact (Kd.C_below HR0_2.out HB.out) | (with_reducible refine Kd.C_alloc ?_ _) | (with_reducible refine Kd.C_drewN ?_ _) | (with_reducible refine Kd.C_drew ?_))); (case side6 => exact HC0_2.out); rintro e w7 ⟨rfl, hb⟩; have n0_ := Aside0.mk (blk_below (g := gb147) (o := .cells #[.slice A0_0 l0_0.length c0_0, .slice A0_1 l0_1.length c0_1, .slice A0_2 l0_2.length c0_2] 26 (0, 0)) (by (with_reducible repeat (first | refine blk_drewN ?_ _ | refine blk_drew ?_ | refine blk_alloc ?_ _)); exact BK147.out) hb); have n1_ := Aside0.mk (below_step (by repeat (first | (with_reducible first | exact HB.out | apply below_alloc | apply pw_below_drewN | apply below_drew1 | refine below_set ?_ GE147.out) | exact HB.out)) hb); clear BK147; clear HB; have BK147 := n0_; have HB := n1_; clear n0_ n1_; (try clear hb); (try clear hb2); (try clear hk); (try clear hi); have hcz8_0 : w7.cell? ⟨gb147, 0, none⟩ = some (.slice A0_0 l0_0.length c0_0) := (blk_cell BK147.out 0).trans rfl; have hcz8_1 : w7.cell? ⟨gb147, 1, none⟩ = some (.slice A0_1 l0_1.length c0_1) := (blk_cell BK147.out 1).trans rfl; have hcz8_2 : w7.cell? ⟨gb147, 2, none⟩ = some (.slice A0_2 l0_2.length c0_2) := (blk_cell BK147.out 2).trans rfl; have hfz8_0 := blk_frozen BK147.out 0; have hfz8_1 := blk_frozen BK147.out 1; have hfz8_2 := blk_frozen BK147.out 2) | (go_at_call 48; (with_reducible refine (wishbookref10_served.calls _ _ l0_0 _ _ l0_1 _ _ l0_2 t149 t152 _ ?side1 ?side2 ?side3 ?side4 ?side5 ?side6 A4.out).mono ?_); (case side1 => repeat (first | exact (Kd.C_below HR0_0.out HB.out) | (with_reducible refine Kd.C_alloc ?_ _) | (with_reducible refine Kd.C_drewN ?_ _) | (with_reducible refine Kd.C_drew ?_))); (case side2 => exact HC0_0.out); (case side3 => repeat (first | exact (Kd.C_below HR0_1.out HB.out) | (with_reducible refine Kd.C_alloc ?_ _) | (with_reducible refine Kd.C_drewN ?_ _) | (with_reducible refine Kd.C_drew ?_))); (case side4 => exact HC0_1.out); (case side5 => repeat (first | exact (Kd.C_below HR0_2.out HB.out) | (with_reducible refine Kd.C_alloc ?_ _) | (with_reducible refine Kd.C_drewN ?_ _) | (with_reducible refine Kd.C_drew ?_))); (case side6 => exact HC0_2.out); rintro e w9 ⟨v150, v153, rfl, ho0, ho1, hb⟩; have n0_ := Aside0.mk (Kd.R_lower ho0 (below_size (by repeat (first | (with_reducible first | exact HB.out | apply below_alloc | apply pw_below_drewN | apply below_drew1 | refine below_set ?_ GE147.out) | exact HB.out)))); have n1_ := Aside0.mk (Kd.R_lower ho1 (below_size (by repeat (first | (with_reducible first | exact HB.out | apply below_alloc | apply pw_below_drewN | apply below_drew1 | refine below_set ?_ GE147.out) | exact HB.out)))); have n2_ := Aside0.mk (blk_below (g := gb147) (o := .cells #[.slice A0_0 l0_0.length c0_0, .slice A0_1 l0_1.length c0_1, .slice A0_2 l0_2.length c0_2] 26 (0, 0)) (by (with_reducible repeat (first | refine blk_drewN ?_ _ | refine blk_drew ?_ | refine blk_alloc ?_ _)); exact BK147.out) hb); have n3_ := Aside0.mk (below_step (by repeat (first | (with_reducible first | exact HB.out | apply below_alloc | apply pw_below_drewN | apply below_drew1 | refine below_set ?_ GE147.out) | exact HB.out)) hb); clear BK147; clear HB; have HO151 := n0_; have HO154 := n1_; have BK147 := n2_; have HB := n3_; clear n0_ n1_ n2_ n3_; (try clear hb); (try clear hb2); (try clear hk); (try clear hi); (try clear ho0); (try clear ho1)))
    repeat (go_quiet (first | ((with_reducible refine gate_dst (N := 1) rfl ?_); refine box_event ?hg (N := 1) ?hd (cs := #[.slice A0_0 l0_0.length c0_0, .slice A0_1 l0_1.length c0_1, .slice A0_2 l0_2.length c0_2]) (t := 26) ?hr ?_; (case hd => rfl); (case hg => rfl); (case hr => first | (go_simp; done) | (go_simp; rfl)); intro gb147 hg w5 hbox hb; have n0_ := Aside0.mk (below_step (by repeat (first | (with_reducible first | exact HB.out | apply below_alloc | apply pw_below_drewN | apply below_drew1) | exact HB.out)) hb); have n1_ := Aside0.mk (hbox); have n2_ := Aside0.mk ((by rw [hg]; exact (below_size (by repeat (first | (with_reducible first | exact HB.out | apply below_alloc | apply pw_below_drewN | apply below_drew1) | exact HB.out))) : w.heap.size ≤ gb147)); have n3_ := Aside0.mk ((by rw [hg]; exact (below_size (by repeat (first | (with_reducible first | exact HB.out | apply below_alloc | apply pw_below_drewN | apply below_drew1) | exact HB.out))) : w.heap.size ≤ gb147)); clear HB; have HB := n0_; have BK147 := n1_; have GW147 := n2_; have GE147 := n3_; clear n0_ n1_ n2_ n3_; clear hb hbox hg; have hcz6_0 : w5.cell? ⟨gb147, 0, none⟩ = some (.slice A0_0 l0_0.length c0_0) := (blk_cell BK147.out 0).trans rfl; have hcz6_1 : w5.cell? ⟨gb147, 1, none⟩ = some (.slice A0_1 l0_1.length c0_1) := (blk_cell BK147.out 1).trans rfl; have hcz6_2 : w5.cell? ⟨gb147, 2, none⟩ = some (.slice A0_2 l0_2.length c0_2) := (blk_cell BK147.out 2).trans rfl; have hfz6_0 := blk_frozen BK147.out 0; have hfz6_1 := blk_frozen BK147.out 1; have hfz6_2 := blk_frozen BK147.out 2) | (go_at_call 47; (with_reducible refine (wishbookref10_Check.calls _ _ l0_0 _ _ l0_1 _ _ l0_2 t148 _ ?side1 ?side2 ?side3 ?side4 ?side5 ?side6 A2.out).mono ?_); (case side1 => repeat (first | exact (Kd.C_below HR0_0.out HB.out) | (with_reducible refine Kd.C_alloc ?_ _) | (with_reducible refine Kd.C_drewN ?_ _) | (with_reducible refine Kd.C_drew ?_))); (case side2 => exact HC0_0.out); (case side3 => repeat (first | exact (Kd.C_below HR0_1.out HB.out) | (with_reducible refine Kd.C_alloc ?_ _) | (with_reducible refine Kd.C_drewN ?_ _) | (with_reducible refine Kd.C_drew ?_))); (case side4 => exact HC0_1.out); (case side5 => repeat (first | exact (Kd.C_below HR0_2.out HB.out) | (with_reducible refine Kd.C_alloc ?_ _) | (with_reducible refine Kd.C_drewN ?_ _) | (with_reducible refine Kd.C_drew ?_))); (case side6 => exact HC0_2.out); rintro e w7 ⟨rfl, hb⟩; have n0_ := Aside0.mk (blk_below (g := gb147) (o := .cells #[.slice A0_0 l0_0.length c0_0, .slice A0_1 l0_1.length c0_1, .slice A0_2 l0_2.length c0_2] 26 (0, 0)) (by (with_reducible repeat (first | refine blk_drewN ?_ _ | refine blk_drew ?_ | refine blk_alloc ?_ _)); exact BK147.out) hb); have n1_ := Aside0.mk (below_step (by repeat (first | (with_reducible first | exact HB.out | apply below_alloc | apply pw_below_drewN | apply below_drew1 | refine below_set ?_ GE147.out) | exact HB.out)) hb); clear BK147; clear HB; have BK147 := n0_; have HB := n1_; clear n0_ n1_; (try clear hb); (try clear hb2); (try clear hk); (try clear hi); have hcz8_0 : w7.cell? ⟨gb147, 0, none⟩ = some (.slice A0_0 l0_0.length c0_0) := (blk_cell BK147.out 0).trans rfl; have hcz8_1 : w7.cell? ⟨gb147, 1, none⟩ = some (.slice A0_1 l0_1.length c0_1) := (blk_cell BK147.out 1).trans rfl; have hcz8_2 : w7.cell? ⟨gb147, 2, none⟩ = some (.slice A0_2 l0_2.length c0_2) := (blk_cell BK147.out 2).trans rfl; have hfz8_0 := blk_frozen BK147.out 0; have hfz8_1 := blk_frozen BK147.out 1; have hfz8_2 := blk_frozen BK147.out 2) | (go_at_call 48; (with_reducible refine (wishbookref10_served.calls _ _ l0_0 _ _ l0_1 _ _ l0_2 t149 t152 _ ?side1 ?side2 ?side3 ?side4 ?side5 ?side6 A4.out).mono ?_); (case side1 => repeat (first | exact (Kd.C_below HR0_0.out HB.out) | (with_reducible refine Kd.C_alloc ?_ _) | (with_reducible refine Kd.C_drewN ?_ _) | (with_reducible refine Kd.C_drew ?_))); (case side2 => exact HC0_0.out); (case side3 => repeat (first | exact (Kd.C_below HR0_1.out HB.out) | (with_reducible refine Kd.C_alloc ?_ _) | (with_reducible refine Kd.C_drewN ?_ _) | (with_reducible refine Kd.C_drew ?_))); (case side4 => exact HC0_1.out); (case side5 => repeat (first | exact (Kd.C_below HR0_2.out HB.out) | (with_reducible refine Kd.C_alloc ?_ _) | (with_reducible refine Kd.C_drewN ?_ _) | (with_reducible refine Kd.C_drew ?_))); (case side6 => exact HC0_2.out); rintro e w9 ⟨v150, v153, rfl, ho0, ho1, hb⟩; have n0_ := Aside0.mk (Kd.R_lower ho0 (below_size (by repeat (first | (with_reducible first | exact HB.out | apply below_alloc | apply pw_below_drewN | apply below_drew1 | refine below_set ?_ GE147.out) | exact HB.out)))); have n1_ := Aside0.mk (Kd.R_lower ho1 (below_size (by repeat (first | (with_reducible first | exact HB.out | apply below_alloc | apply pw_below_drewN | apply below_drew1 | refine below_set ?_ GE147.out) | exact HB.out)))); have n2_ := Aside0.mk (blk_below (g := gb147) (o := .cells #[.slice A0_0 l0_0.length c0_0, .slice A0_1 l0_1.length c0_1, .slice A0_2 l0_2.length c0_2] 26 (0, 0)) (by (with_reducible repeat (first | refine blk_drewN ?_ _ | refine blk_drew ?_ | refine blk_alloc ?_ _)); exact BK147.out) hb); have n3_ := Aside0.mk (below_step (by repeat (first | (with_reducible first | exact HB.out | apply below_alloc | apply pw_below_drewN | apply below_drew1 | refine below_set ?_ GE147.out) | exact HB.out)) hb); clear BK147; clear HB; have HO151 := n0_; have HO154 := n1_; have BK147 := n2_; have HB := n3_; clear n0_ n1_ n2_ n3_; (try clear hb); (try clear hb2); (try clear hk); (try clear hi); (try clear ho0); (try clear ho1))); try go_wp2_with (first | ((with_reducible refine gate_dst (N := 1) rfl ?_); refine box_event ?hg (N := 1) ?hd (cs := #[.slice A0_0 l0_0.length c0_0, .slice A0_1 l0_1.length c0_1, .slice A0_2 l0_2.length c0_2]) (t := 26) ?hr ?_; (case hd => rfl); (case hg => rfl); (case hr => first | (go_simp; done) | (go_simp; rfl)); intro gb147 hg w5 hbox hb; have n0_ := Aside0.mk (below_step (by repeat (first | (with_reducible first | exact HB.out | apply below_alloc | apply pw_below_drewN | apply below_drew1) | exact HB.out)) hb); have n1_ := Aside0.mk (hbox); have n2_ := Aside0.mk ((by rw [hg]; exact (below_size (by repeat (first | (with_reducible first | exact HB.out | apply below_alloc | apply pw_below_drewN | apply below_drew1) | exact HB.out))) : w.heap.size ≤ gb147)); have n3_ := Aside0.mk ((by rw [hg]; exact (below_size (by repeat (first | (with_reducible first | exact HB.out | apply below_alloc | apply pw_below_drewN | apply below_drew1) | exact HB.out))) : w.heap.size ≤ gb147)); clear HB; have HB := n0_; have BK147 := n1_; have GW147 := n2_; have GE147 := n3_; clear n0_ n1_ n2_ n3_; clear hb hbox hg; have hcz6_0 : w5.cell? ⟨gb147, 0, none⟩ = some (.slice A0_0 l0_0.length c0_0) := (blk_cell BK147.out 0).trans rfl; have hcz6_1 : w5.cell? ⟨gb147, 1, none⟩ = some (.slice A0_1 l0_1.length c0_1) := (blk_cell BK147.out 1).trans rfl; have hcz6_2 : w5.cell? ⟨gb147, 2, none⟩ = some (.slice A0_2 l0_2.length c0_2) := (blk_cell BK147.out 2).trans rfl; have hfz6_0 := blk_frozen BK147.out 0; have hfz6_1 := blk_frozen BK147.out 1; have hfz6_2 := blk_frozen BK147.out 2) | (go_at_call 47; (with_reducible refine (wishbookref10_Check.calls _ _ l0_0 _ _ l0_1 _ _ l0_2 t148 _ ?side1 ?side2 ?side3 ?side4 ?side5 ?side6 A2.out).mono ?_); (case side1 => repeat (first | exact (Kd.C_below HR0_0.out HB.out) | (with_reducible refine Kd.C_alloc ?_ _) | (with_reducible refine Kd.C_drewN ?_ _) | (with_reducible refine Kd.C_drew ?_))); (case side2 => exact HC0_0.out); (case side3 => repeat (first | exact (Kd.C_below HR0_1.out HB.out) | (with_reducible refine Kd.C_alloc ?_ _) | (with_reducible refine Kd.C_drewN ?_ _) | (with_reducible refine Kd.C_drew ?_))); (case side4 => exact HC0_1.out); (case side5 => repeat (first | exact (Kd.C_below HR0_2.out HB.out) | (with_reducible refine Kd.C_alloc ?_ _) | (with_reducible refine Kd.C_drewN ?_ _) | (with_reducible refine Kd.C_drew ?_))); (case side6 => exact HC0_2.out); rintro e w7 ⟨rfl, hb⟩; have n0_ := Aside0.mk (blk_below (g := gb147) (o := .cells #[.slice A0_0 l0_0.length c0_0, .slice A0_1 l0_1.length c0_1, .slice A0_2 l0_2.length c0_2] 26 (0, 0)) (by (with_reducible repeat (first | refine blk_drewN ?_ _ | refine blk_drew ?_ | refine blk_alloc ?_ _)); exact BK147.out) hb); have n1_ := Aside0.mk (below_step (by repeat (first | (with_reducible first | exact HB.out | apply below_alloc | apply pw_below_drewN | apply below_drew1 | refine below_set ?_ GE147.out) | exact HB.out)) hb); clear BK147; clear HB; have BK147 := n0_; have HB := n1_; clear n0_ n1_; (try clear hb); (try clear hb2); (try clear hk); (try clear hi); have hcz8_0 : w7.cell? ⟨gb147, 0, none⟩ = some (.slice A0_0 l0_0.length c0_0) := (blk_cell BK147.out 0).trans rfl; have hcz8_1 : w7.cell? ⟨gb147, 1, none⟩ = some (.slice A0_1 l0_1.length c0_1) := (blk_cell BK147.out 1).trans rfl; have hcz8_2 : w7.cell? ⟨gb147, 2, none⟩ = some (.slice A0_2 l0_2.length c0_2) := (blk_cell BK147.out 2).trans rfl; have hfz8_0 := blk_frozen BK147.out 0; have hfz8_1 := blk_frozen BK147.out 1; have hfz8_2 := blk_frozen BK147.out 2) | (go_at_call 48; (with_reducible refine (wishbookref10_served.calls _ _ l0_0 _ _ l0_1 _ _ l0_2 t149 t152 _ ?side1 ?side2 ?side3 ?side4 ?side5 ?side6 A4.out).mono ?_); (case side1 => repeat (first | exact (Kd.C_below HR0_0.out HB.out) | (with_reducible refine Kd.C_alloc ?_ _) | (with_reducible refine Kd.C_drewN ?_ _) | (with_reducible refine Kd.C_drew ?_))); (case side2 => exact HC0_0.out); (case side3 => repeat (first | exact (Kd.C_below HR0_1.out HB.out) | (with_reducible refine Kd.C_alloc ?_ _) | (with_reducible refine Kd.C_drewN ?_ _) | (with_reducible refine Kd.C_drew ?_))); (case side4 => exact HC0_1.out); (case side5 => repeat (first | exact (Kd.C_below HR0_2.out HB.out) | (with_reducible refine Kd.C_alloc ?_ _) | (with_reducible refine Kd.C_drewN ?_ _) | (with_reducible refine Kd.C_drew ?_))); (case side6 => exact HC0_2.out); rintro e w9 ⟨v150, v153, rfl, ho0, ho1, hb⟩; have n0_ := Aside0.mk (Kd.R_lower ho0 (below_size (by repeat (first | (with_reducible first | exact HB.out | apply below_alloc | apply pw_below_drewN | apply below_drew1 | refine below_set ?_ GE147.out) | exact HB.out)))); have n1_ := Aside0.mk (Kd.R_lower ho1 (below_size (by repeat (first | (with_reducible first | exact HB.out | apply below_alloc | apply pw_below_drewN | apply below_drew1 | refine below_set ?_ GE147.out) | exact HB.out)))); have n2_ := Aside0.mk (blk_below (g := gb147) (o := .cells #[.slice A0_0 l0_0.length c0_0, .slice A0_1 l0_1.length c0_1, .slice A0_2 l0_2.length c0_2] 26 (0, 0)) (by (with_reducible repeat (first | refine blk_drewN ?_ _ | refine blk_drew ?_ | refine blk_alloc ?_ _)); exact BK147.out) hb); have n3_ := Aside0.mk (below_step (by repeat (first | (with_reducible first | exact HB.out | apply below_alloc | apply pw_below_drewN | apply below_drew1 | refine below_set ?_ GE147.out) | exact HB.out)) hb); clear BK147; clear HB; have HO151 := n0_; have HO154 := n1_; have BK147 := n2_; have HB := n3_; clear n0_ n1_ n2_ n3_; (try clear hb); (try clear hb2); (try clear hk); (try clear hi); (try clear ho0); (try clear ho1))))
    go_loopg [7, 8] k (fun kq v7 v8 w' => ∃ (x7_1 : List Int) (x8_1 : Int), v8 = .int .i64 x8_1 ∧ Aside0 (wishbookref10_Whole.l0 kq t149 x7_1 x8_1 l0_0 l0_1 l0_2 = some (r1, r2)) ∧ Aside0 (kq ≤ k) ∧ Aside0 (Kd.R k49 49 w' w.heap.size (fun _ => True) v150 t149) ∧ Aside0 (Kd.R (Kd.int .i64) 3 w' w.heap.size (fun _ => True) v7 x7_1) ∧ Aside0 (w'.heap[gb147]? = some (.cells #[(.slice A0_0 l0_0.length c0_0), (.slice A0_1 l0_1.length c0_1), (.slice A0_2 l0_2.length c0_2)] 26 (0, 0))) ∧ Aside0 (Below w.heap.size w w'))
    case atStart => exact ⟨(([] : List Int)), (0), (by first | rfl | (simp; done) | (simp [*]; done)), H', ⟨Nat.le_refl _⟩, ⟨by (with_reducible repeat (first | apply Kd.R_alloc | apply Kd.R_drewN | apply Kd.R_drew)); exact HO151.out⟩, ⟨by first | exact Kd.R_nil _ _ _ _ _ | exact Kd.N_nil _ _ _ _ _ | exact Kd.V_nil _ _ _ _ _ | exact Kd.Q_nil _ _ _ _ _ | exact Kd.S_nil _ _ _ _ _⟩, ⟨by (with_reducible repeat (first | refine blk_drewN ?_ _ | refine blk_drew ?_ | refine blk_alloc ?_ _)); exact BK147.out⟩, ⟨by repeat (first | (with_reducible first | exact HB.out | apply below_alloc | apply pw_below_drewN | apply below_drew1 | refine below_set ?_ GE147.out) | exact HB.out)⟩⟩
    case round =>
      clear H'
      try clear c1
      try clear p2
      try clear c3
      try clear c3b0
      try clear c3b1
      try clear hcz6_0
      try clear hcz6_1
      try clear hcz6_2
      try clear hcz8_0
      try clear hcz8_1
      try clear hcz8_2
      try clear hfz6_0
      try clear hfz6_1
      try clear hfz6_2
      try clear hfz8_0
      try clear hfz8_1
      try clear hfz8_2
      obtain ⟨x7_1, x8_1, rfl, HA, HK1, HO_5, HO_7, BK147, HB⟩ := hrel
      cases gk with
      | zero => exact absurd HA.out (by simp [wishbookref10_Whole.l0])
      | succ k1 =>
        have H := HA.out
        clear HA
        simp only [wishbookref10_Whole.l0] at H
        by_cases c10 : x8_1 ≤ 9
        · rw [if_pos c10] at H
          have c10b0 : decide (x8_1 ≤ 9) = true := decide_eq_true c10
          clear c10
          have H' := Aside0.mk H
          clear H
          go_wp2
          repeat (go_quiet (fail); try go_wp2)
          go_loopg [9, 10, 11] k1 (fun kq v9 v10 v11 w' => ∃ (x9_2 : Bool) (x10_2 : Bool) (x11_2 : Int), v9 = .bool x9_2 ∧ v10 = .bool x10_2 ∧ v11 = .int .i64 x11_2 ∧ Aside0 (wishbookref10_Whole.l1 kq t149 x7_1 x8_1 x9_2 x10_2 x11_2 l0_0 l0_1 l0_2 = some (r1, r2)) ∧ Aside0 (kq ≤ k1) ∧ Aside0 (Kd.R k49 49 w' w.heap.size (fun _ => True) v150 t149) ∧ Aside0 (Kd.R (Kd.int .i64) 3 w' w.heap.size (fun _ => True) u7 x7_1) ∧ Aside0 (w'.heap[gb147]? = some (.cells #[(.slice A0_0 l0_0.length c0_0), (.slice A0_1 l0_1.length c0_1), (.slice A0_2 l0_2.length c0_2)] 26 (0, 0))) ∧ Aside0 (Below w.heap.size w w'))
          case atStart => exact ⟨(false), (true), (0), (by first | rfl | (simp; done) | (simp [*]; done)), (by first | rfl | (simp; done) | (simp [*]; done)), (by first | rfl | (simp; done) | (simp [*]; done)), H', ⟨Nat.le_refl _⟩, ⟨by (with_reducible repeat (first | apply Kd.R_alloc | apply Kd.R_drewN | apply Kd.R_drew)); exact HO_5.out⟩, ⟨by (with_reducible repeat (first | apply Kd.R_alloc | apply Kd.R_drewN | apply Kd.R_drew)); exact HO_7.out⟩, ⟨by (with_reducible repeat (first | refine blk_drewN ?_ _ | refine blk_drew ?_ | refine blk_alloc ?_ _)); exact BK147.out⟩, ⟨by repeat (first | (with_reducible first | exact HB.out | apply below_alloc | apply pw_below_drewN | apply below_drew1 | refine below_set ?_ GE147.out) | exact HB.out)⟩⟩
          case round =>
            clear H'
            try clear c1
            try clear p2
            try clear c3
            try clear c3b0
            try clear c3b1
            try clear c10
            try clear c10b0
            try clear hcz6_0
            try clear hcz6_1
            try clear hcz6_2
            try clear hcz8_0
            try clear hcz8_1
            try clear hcz8_2
            try clear hfz6_0
            try clear hfz6_1
            try clear hfz6_2
            try clear hfz8_0
            try clear hfz8_1
            try clear hfz8_2
            try clear p2
            obtain ⟨x9_2, x10_2, x11_2, rfl, rfl, rfl, HA, HK2, HO_5, HO_7, BK147, HB⟩ := hrel
            cases gk with
            | zero => exact absurd HA.out (by simp [wishbookref10_Whole.l1])
            | succ k2 =>
              have H := HA.out
              clear HA
              simp only [wishbookref10_Whole.l1] at H
              by_cases c11 : x11_2 < (t149.length : Int)
              · rw [if_pos c11] at H
                have c11b0 : decide (x11_2 < (t149.length : Int)) = true := decide_eq_true c11
                clear c11
                by_cases c12 : 0 ≤ x11_2
                · rw [if_pos c12] at H
                  have c12b0 : decide (0 ≤ x11_2) = true := decide_eq_true c12
                  clear c12
                  by_cases c13 : x11_2 < (l0_1.length : Int)
                  · rw [if_pos c13] at H
                    have c13b0 : decide (x11_2 < (l0_1.length : Int)) = true := decide_eq_true c13
                    clear c13
                    by_cases c14 : ((rd_T47 l0_1 x11_2).f0) = x8_1
                    · rw [if_pos c14] at H
                      have c14b0 : (((rd_T47 l0_1 x11_2).f0) == x8_1) = true := beq_iff_eq.mpr c14
                      have c14b1 : (((rd_T47 l0_1 x11_2).f0) != x8_1) = false := bne_eq_false_iff_eq.mpr c14
                      clear c14
                      by_cases c15 : x10_2 = true
                      · subst c15
                        have H1 : (if ((rd_T49 t149 x11_2).f2) = 0 then (wishbookref10_Whole.l1 k2 t149 x7_1 x8_1 true (((rd_T49 t149 x11_2).f3) == 0) (wrap64 (x11_2 + 1)) l0_0 l0_1 l0_2) else (wishbookref10_Whole.l1 k2 t149 x7_1 x8_1 true false (wrap64 (x11_2 + 1)) l0_0 l0_1 l0_2)) = some (r1, r2) := by rw [if_pos rfl] at H; exact H
                        clear H
                        have H := H1
                        clear H1
                        by_cases c16 : ((rd_T49 t149 x11_2).f2) = 0
                        · rw [if_pos c16] at H
                          have c16b0 : (((rd_T49 t149 x11_2).f2) == 0) = true := beq_iff_eq.mpr c16
                          have c16b1 : (((rd_T49 t149 x11_2).f2) != 0) = false := bne_eq_false_iff_eq.mpr c16
                          clear c16
                          have H' := Aside0.mk H
                          clear H
                          obtain ⟨Ao17, co17, eo17⟩ := Kd.R_slice HO_5.out
                          subst eo17
                          have hcz18_0 : wr.cell? ⟨gb147, 0, none⟩ = some (.slice A0_0 l0_0.length c0_0) := (blk_cell BK147.out 0).trans rfl
                          have hcz18_1 : wr.cell? ⟨gb147, 1, none⟩ = some (.slice A0_1 l0_1.length c0_1) := (blk_cell BK147.out 1).trans rfl
                          have hcz18_2 : wr.cell? ⟨gb147, 2, none⟩ = some (.slice A0_2 l0_2.length c0_2) := (blk_cell BK147.out 2).trans rfl
                          have hfz18_0 := blk_frozen BK147.out 0
                          have hfz18_1 := blk_frozen BK147.out 1
                          have hfz18_2 := blk_frozen BK147.out 2
                          have p155 : 0 ≤ (x11_2 : Int) := of_decide_eq_true (by first | (with_reducible assumption) | assumption)
                          have q155 : x11_2 < (l0_1.length : Int) := of_decide_eq_true (by first | (with_reducible assumption) | assumption)
                          obtain ⟨ad155, e155, hx155_0, hx155_1, hx155_2, hx155_3, hx155_4⟩ := at_T47 HR0_1.out x11_2 p155 q155
                          cases e155
                          replace hx155_0 := (HB.out.cell (World.block_lt_of_cell? w _ hx155_0)).trans hx155_0
                          replace hx155_1 := (HB.out.cell (World.block_lt_of_cell? w _ hx155_1)).trans hx155_1
                          replace hx155_2 := (HB.out.cell (World.block_lt_of_cell? w _ hx155_2)).trans hx155_2
                          replace hx155_3 := (HB.out.cell (World.block_lt_of_cell? w _ hx155_3)).trans hx155_3
                          replace hx155_4 := (HB.out.cell (World.block_lt_of_cell? w _ hx155_4)).trans hx155_4
                          replace p155 := eq_true p155
                          replace q155 := eq_true q155
                          have p156 : 0 ≤ (x11_2 : Int) := of_decide_eq_true (by first | (with_reducible assumption) | assumption)
                          have q156 : x11_2 < (t149.length : Int) := of_decide_eq_true (by first | (with_reducible assumption) | assumption)
                          obtain ⟨ad156, e156, hx156_0, hx156_1, hx156_2, hx156_3⟩ := at_T49 (Kd.R_reads' HO_5.out).2.2 x11_2 p156 q156
                          cases e156
                          replace p156 := eq_true p156
                          replace q156 := eq_true q156
                          have p157 : 0 ≤ (x11_2 : Int) := of_decide_eq_true (by first | (with_reducible assumption) | assumption)
                          have q157 : x11_2 < (t149.length : Int) := of_decide_eq_true (by first | (with_reducible assumption) | assumption)
                          obtain ⟨ad157, e157, hx157_0, hx157_1, hx157_2, hx157_3⟩ := at_T49 (Kd.R_reads' HO_5.out).2.2 x11_2 p157 q157
                          obtain rfl : ad156 = ad157 := (by injection e157)
                          replace p157 := eq_true p157
                          replace q157 := eq_true q157
                          go_wp2
                          repeat (go_quiet (fail); try go_wp2)
                          go_roundg k2
                          case measure => have := HK1.out; have := HK2.out; omega
                          case rel => exact ⟨(true), ((((rd_T49 t149 x11_2).f3) == 0)), (wrap64 (x11_2 + 1)), (by first | rfl | (simp; done) | (simp [*]; done)), (by first | rfl | (simp; done) | (simp [*]; done)), (by first | rfl | (simp; done) | (simp [*]; done)), H', ⟨by have := HK1.out; have := HK2.out; omega⟩, ⟨by (with_reducible repeat (first | apply Kd.R_alloc | apply Kd.R_drewN | apply Kd.R_drew)); exact HO_5.out⟩, ⟨by (with_reducible repeat (first | apply Kd.R_alloc | apply Kd.R_drewN | apply Kd.R_drew)); exact HO_7.out⟩, ⟨by (with_reducible repeat (first | refine blk_drewN ?_ _ | refine blk_drew ?_ | refine blk_alloc ?_ _)); exact BK147.out⟩, ⟨by repeat (first | (with_reducible first | exact HB.out | apply below_alloc | apply pw_below_drewN | apply below_drew1 | refine below_set ?_ GE147.out) | exact HB.out)⟩⟩
                        · rw [if_neg c16] at H
                          have c16b0 : (((rd_T49 t149 x11_2).f2) == 0) = false := beq_eq_false_iff_ne.mpr c16
                          have c16b1 : (((rd_T49 t149 x11_2).f2) != 0) = true := bne_iff_ne.mpr c16
                          have H' := Aside0.mk H
                          clear H
                          obtain ⟨Ao19, co19, eo19⟩ := Kd.R_slice HO_5.out
                          subst eo19
                          have hcz20_0 : wr.cell? ⟨gb147, 0, none⟩ = some (.slice A0_0 l0_0.length c0_0) := (blk_cell BK147.out 0).trans rfl
                          have hcz20_1 : wr.cell? ⟨gb147, 1, none⟩ = some (.slice A0_1 l0_1.length c0_1) := (blk_cell BK147.out 1).trans rfl
                          have hcz20_2 : wr.cell? ⟨gb147, 2, none⟩ = some (.slice A0_2 l0_2.length c0_2) := (blk_cell BK147.out 2).trans rfl
                          have hfz20_0 := blk_frozen BK147.out 0
                          have hfz20_1 := blk_frozen BK147.out 1
                          have hfz20_2 := blk_frozen BK147.out 2
                          have p155 : 0 ≤ (x11_2 : Int) := of_decide_eq_true (by first | (with_reducible assumption) | assumption)
                          have q155 : x11_2 < (l0_1.length : Int) := of_decide_eq_true (by first | (with_reducible assumption) | assumption)
                          obtain ⟨ad155, e155, hx155_0, hx155_1, hx155_2, hx155_3, hx155_4⟩ := at_T47 HR0_1.out x11_2 p155 q155
                          cases e155
                          replace hx155_0 := (HB.out.cell (World.block_lt_of_cell? w _ hx155_0)).trans hx155_0
                          replace hx155_1 := (HB.out.cell (World.block_lt_of_cell? w _ hx155_1)).trans hx155_1
                          replace hx155_2 := (HB.out.cell (World.block_lt_of_cell? w _ hx155_2)).trans hx155_2
                          replace hx155_3 := (HB.out.cell (World.block_lt_of_cell? w _ hx155_3)).trans hx155_3
                          replace hx155_4 := (HB.out.cell (World.block_lt_of_cell? w _ hx155_4)).trans hx155_4
                          replace p155 := eq_true p155
                          replace q155 := eq_true q155
                          have p156 : 0 ≤ (x11_2 : Int) := of_decide_eq_true (by first | (with_reducible assumption) | assumption)
                          have q156 : x11_2 < (t149.length : Int) := of_decide_eq_true (by first | (with_reducible assumption) | assumption)
                          obtain ⟨ad156, e156, hx156_0, hx156_1, hx156_2, hx156_3⟩ := at_T49 (Kd.R_reads' HO_5.out).2.2 x11_2 p156 q156
                          cases e156
                          replace p156 := eq_true p156
                          replace q156 := eq_true q156
                          go_wp2
                          repeat (go_quiet (fail); try go_wp2)
                          go_roundg k2
                          case measure => have := HK1.out; have := HK2.out; omega
                          case rel => exact ⟨(true), (false), (wrap64 (x11_2 + 1)), (by first | rfl | (simp; done) | (simp [*]; done)), (by first | rfl | (simp; done) | (simp [*]; done)), (by first | rfl | (simp; done) | (simp [*]; done)), H', ⟨by have := HK1.out; have := HK2.out; omega⟩, ⟨by (with_reducible repeat (first | apply Kd.R_alloc | apply Kd.R_drewN | apply Kd.R_drew)); exact HO_5.out⟩, ⟨by (with_reducible repeat (first | apply Kd.R_alloc | apply Kd.R_drewN | apply Kd.R_drew)); exact HO_7.out⟩, ⟨by (with_reducible repeat (first | refine blk_drewN ?_ _ | refine blk_drew ?_ | refine blk_alloc ?_ _)); exact BK147.out⟩, ⟨by repeat (first | (with_reducible first | exact HB.out | apply below_alloc | apply pw_below_drewN | apply below_drew1 | refine below_set ?_ GE147.out) | exact HB.out)⟩⟩
                      · replace c15 := Bool.eq_false_iff.mpr c15
                        subst c15
                        have H1 : (wishbookref10_Whole.l1 k2 t149 x7_1 x8_1 true false (wrap64 (x11_2 + 1)) l0_0 l0_1 l0_2) = some (r1, r2) := by rw [if_neg (show ¬ (false = true) by decide)] at H; exact H
                        clear H
                        have H := H1
                        clear H1
                        have H' := Aside0.mk H
                        clear H
                        obtain ⟨Ao21, co21, eo21⟩ := Kd.R_slice HO_5.out
                        subst eo21
                        have hcz22_0 : wr.cell? ⟨gb147, 0, none⟩ = some (.slice A0_0 l0_0.length c0_0) := (blk_cell BK147.out 0).trans rfl
                        have hcz22_1 : wr.cell? ⟨gb147, 1, none⟩ = some (.slice A0_1 l0_1.length c0_1) := (blk_cell BK147.out 1).trans rfl
                        have hcz22_2 : wr.cell? ⟨gb147, 2, none⟩ = some (.slice A0_2 l0_2.length c0_2) := (blk_cell BK147.out 2).trans rfl
                        have hfz22_0 := blk_frozen BK147.out 0
                        have hfz22_1 := blk_frozen BK147.out 1
                        have hfz22_2 := blk_frozen BK147.out 2
                        have p155 : 0 ≤ (x11_2 : Int) := of_decide_eq_true (by first | (with_reducible assumption) | assumption)
                        have q155 : x11_2 < (l0_1.length : Int) := of_decide_eq_true (by first | (with_reducible assumption) | assumption)
                        obtain ⟨ad155, e155, hx155_0, hx155_1, hx155_2, hx155_3, hx155_4⟩ := at_T47 HR0_1.out x11_2 p155 q155
                        cases e155
                        replace hx155_0 := (HB.out.cell (World.block_lt_of_cell? w _ hx155_0)).trans hx155_0
                        replace hx155_1 := (HB.out.cell (World.block_lt_of_cell? w _ hx155_1)).trans hx155_1
                        replace hx155_2 := (HB.out.cell (World.block_lt_of_cell? w _ hx155_2)).trans hx155_2
                        replace hx155_3 := (HB.out.cell (World.block_lt_of_cell? w _ hx155_3)).trans hx155_3
                        replace hx155_4 := (HB.out.cell (World.block_lt_of_cell? w _ hx155_4)).trans hx155_4
                        replace p155 := eq_true p155
                        replace q155 := eq_true q155
                        go_wp2
                        repeat (go_quiet (fail); try go_wp2)
                        go_roundg k2
                        case measure => have := HK1.out; have := HK2.out; omega
                        case rel => exact ⟨(true), (false), (wrap64 (x11_2 + 1)), (by first | rfl | (simp; done) | (simp [*]; done)), (by first | rfl | (simp; done) | (simp [*]; done)), (by first | rfl | (simp; done) | (simp [*]; done)), H', ⟨by have := HK1.out; have := HK2.out; omega⟩, ⟨by (with_reducible repeat (first | apply Kd.R_alloc | apply Kd.R_drewN | apply Kd.R_drew)); exact HO_5.out⟩, ⟨by (with_reducible repeat (first | apply Kd.R_alloc | apply Kd.R_drewN | apply Kd.R_drew)); exact HO_7.out⟩, ⟨by (with_reducible repeat (first | refine blk_drewN ?_ _ | refine blk_drew ?_ | refine blk_alloc ?_ _)); exact BK147.out⟩, ⟨by repeat (first | (with_reducible first | exact HB.out | apply below_alloc | apply pw_below_drewN | apply below_drew1 | refine below_set ?_ GE147.out) | exact HB.out)⟩⟩
                    · rw [if_neg c14] at H
                      have c14b0 : (((rd_T47 l0_1 x11_2).f0) == x8_1) = false := beq_eq_false_iff_ne.mpr c14
                      have c14b1 : (((rd_T47 l0_1 x11_2).f0) != x8_1) = true := bne_iff_ne.mpr c14
                      have H' := Aside0.mk H
                      clear H
                      obtain ⟨Ao23, co23, eo23⟩ := Kd.R_slice HO_5.out
                      subst eo23
                      have hcz24_0 : wr.cell? ⟨gb147, 0, none⟩ = some (.slice A0_0 l0_0.length c0_0) := (blk_cell BK147.out 0).trans rfl
                      have hcz24_1 : wr.cell? ⟨gb147, 1, none⟩ = some (.slice A0_1 l0_1.length c0_1) := (blk_cell BK147.out 1).trans rfl
                      have hcz24_2 : wr.cell? ⟨gb147, 2, none⟩ = some (.slice A0_2 l0_2.length c0_2) := (blk_cell BK147.out 2).trans rfl
                      have hfz24_0 := blk_frozen BK147.out 0
                      have hfz24_1 := blk_frozen BK147.out 1
                      have hfz24_2 := blk_frozen BK147.out 2
                      have p155 : 0 ≤ (x11_2 : Int) := of_decide_eq_true (by first | (with_reducible assumption) | assumption)
                      have q155 : x11_2 < (l0_1.length : Int) := of_decide_eq_true (by first | (with_reducible assumption) | assumption)
                      obtain ⟨ad155, e155, hx155_0, hx155_1, hx155_2, hx155_3, hx155_4⟩ := at_T47 HR0_1.out x11_2 p155 q155
                      cases e155
                      replace hx155_0 := (HB.out.cell (World.block_lt_of_cell? w _ hx155_0)).trans hx155_0
                      replace hx155_1 := (HB.out.cell (World.block_lt_of_cell? w _ hx155_1)).trans hx155_1
                      replace hx155_2 := (HB.out.cell (World.block_lt_of_cell? w _ hx155_2)).trans hx155_2
                      replace hx155_3 := (HB.out.cell (World.block_lt_of_cell? w _ hx155_3)).trans hx155_3
                      replace hx155_4 := (HB.out.cell (World.block_lt_of_cell? w _ hx155_4)).trans hx155_4
                      replace p155 := eq_true p155
                      replace q155 := eq_true q155
                      go_wp2
                      repeat (go_quiet (fail); try go_wp2)
                      go_roundg k2
                      case measure => have := HK1.out; have := HK2.out; omega
                      case rel => exact ⟨(x9_2), (x10_2), (wrap64 (x11_2 + 1)), (by first | rfl | (simp; done) | (simp [*]; done)), (by first | rfl | (simp; done) | (simp [*]; done)), (by first | rfl | (simp; done) | (simp [*]; done)), H', ⟨by have := HK1.out; have := HK2.out; omega⟩, ⟨by (with_reducible repeat (first | apply Kd.R_alloc | apply Kd.R_drewN | apply Kd.R_drew)); exact HO_5.out⟩, ⟨by (with_reducible repeat (first | apply Kd.R_alloc | apply Kd.R_drewN | apply Kd.R_drew)); exact HO_7.out⟩, ⟨by (with_reducible repeat (first | refine blk_drewN ?_ _ | refine blk_drew ?_ | refine blk_alloc ?_ _)); exact BK147.out⟩, ⟨by repeat (first | (with_reducible first | exact HB.out | apply below_alloc | apply pw_below_drewN | apply below_drew1 | refine below_set ?_ GE147.out) | exact HB.out)⟩⟩
                  · rw [if_neg c13] at H
                    exact absurd H (by simp)
                · rw [if_neg c12] at H
                  exact absurd H (by simp)
              · rw [if_neg c11] at H
                have c11b0 : decide (x11_2 < (t149.length : Int)) = false := decide_eq_false c11
                clear c11
                by_cases c25 : x9_2 = true
                · subst c25
                  have H1 : (if x10_2 = true then (if x7_1.length < 17592186044416 then (wishbookref10_Whole.l0 k2 t149 (x7_1 ++ [x8_1]) (wrap64 (x8_1 + 1)) l0_0 l0_1 l0_2) else (none)) else (wishbookref10_Whole.l0 k2 t149 x7_1 (wrap64 (x8_1 + 1)) l0_0 l0_1 l0_2)) = some (r1, r2) := by rw [if_pos rfl] at H; exact H
                  clear H
                  have H := H1
                  clear H1
                  by_cases c26 : x10_2 = true
                  · subst c26
                    have H1 : (if x7_1.length < 17592186044416 then (wishbookref10_Whole.l0 k2 t149 (x7_1 ++ [x8_1]) (wrap64 (x8_1 + 1)) l0_0 l0_1 l0_2) else (none)) = some (r1, r2) := by rw [if_pos rfl] at H; exact H
                    clear H
                    have H := H1
                    clear H1
                    by_cases c27 : x7_1.length < 17592186044416
                    · rw [if_pos c27] at H
                      have LMc27 := Aside0.mk c27
                      clear c27
                      obtain ⟨y158, hy158⟩ : ∃ y_ : List Int, y_ = (x7_1 ++ [x8_1]) := ⟨_, rfl⟩
                      replace H : (wishbookref10_Whole.l0 k2 t149 y158 (wrap64 (x8_1 + 1)) l0_0 l0_1 l0_2) = some (r1, r2) := by first | (rw [hy158]; with_reducible exact H) | (have H2_ := (Option.bind_some _ _).symm.trans H; rw [hy158]; with_reducible exact H2_) | (have H2_ := (Option.bind_some _ _).symm.trans H; with_reducible exact H2_) | with_reducible exact H | (rw [hy158]; exact H) | exact H
                      have Ny158 := Aside0.mk hy158
                      clear hy158
                      have H' := Aside0.mk H
                      clear H
                      obtain ⟨Ao28, co28, eo28⟩ := Kd.R_slice HO_5.out
                      subst eo28
                      go_wp2_with (first | ((with_reducible refine gate_builtin (b := .append) (xs := #[.tmp 61, .tmp 63]) rfl ?_); at_builtin; refine Kd.R_append (Kd.int .i64) (w0 := w) w.heap.size rfl (.tmp 61) (.tmp 63) 22 3 (.int .i64 0) 8 rfl Tryd.underlying22 info3 rfl (by decide) (by omega) u7 x7_1 x8_1 [.int .i64 x8_1] (fun _ => True) (fun _ => False) rfl rfl ?aP (fun _ hk => hk.elim) ?aF ?aO ?aB ?aS ?aL ?_; (case aP => exact rfl); (case aB => exact (by repeat (first | (with_reducible first | exact HB.out | apply below_alloc | apply pw_below_drewN | apply below_drew1 | refine below_set ?_ GE147.out) | exact HB.out))); (case aF => exact (fun _ _ => trivial)); (case aO => exact (by (with_reducible repeat (first | apply Kd.R_alloc | apply Kd.R_drewN | apply Kd.R_drew)); exact HO_7.out)); (case aS => exact (below_size (by repeat (first | (with_reducible first | exact HB.out | apply below_alloc | apply pw_below_drewN | apply below_drew1 | refine below_set ?_ GE147.out) | exact HB.out)))); (case aL => have := LMc27.out; omega); intro v159 w29 ho hb hg hat; rw [← Ny158.out] at ho; have n0_ := Aside0.mk (Kd.R_over' (by (with_reducible repeat (first | apply Kd.R_alloc | apply Kd.R_drewN | apply Kd.R_drew)); exact HO_5.out) (Kd.R_typed (by (with_reducible repeat (first | apply Kd.R_alloc | apply Kd.R_drewN | apply Kd.R_drew)); exact HO_7.out)) (by decide) hg); have n1_ := Aside0.mk (blk_grown (g := gb147) (o := .cells #[.slice A0_0 l0_0.length c0_0, .slice A0_1 l0_1.length c0_1, .slice A0_2 l0_2.length c0_2] 26 (0, 0)) (by (with_reducible repeat (first | refine blk_drewN ?_ _ | refine blk_drew ?_ | refine blk_alloc ?_ _)); exact BK147.out) hg (Kd.R_ne HO_7.out BK147.out (by decide))); have n2_ := Aside0.mk (hb); have n3_ := Aside0.mk (ho); clear HO_5; clear BK147; clear HB; clear HO_7; have HO_5 := n0_; have BK147 := n1_; have HB := n2_; have HO160 := n3_; clear n0_ n1_ n2_ n3_; clear ho hb hg hat))
                      repeat (go_quiet (first | ((with_reducible refine gate_builtin (b := .append) (xs := #[.tmp 61, .tmp 63]) rfl ?_); at_builtin; refine Kd.R_append (Kd.int .i64) (w0 := w) w.heap.size rfl (.tmp 61) (.tmp 63) 22 3 (.int .i64 0) 8 rfl Tryd.underlying22 info3 rfl (by decide) (by omega) u7 x7_1 x8_1 [.int .i64 x8_1] (fun _ => True) (fun _ => False) rfl rfl ?aP (fun _ hk => hk.elim) ?aF ?aO ?aB ?aS ?aL ?_; (case aP => exact rfl); (case aB => exact (by repeat (first | (with_reducible first | exact HB.out | apply below_alloc | apply pw_below_drewN | apply below_drew1 | refine below_set ?_ GE147.out) | exact HB.out))); (case aF => exact (fun _ _ => trivial)); (case aO => exact (by (with_reducible repeat (first | apply Kd.R_alloc | apply Kd.R_drewN | apply Kd.R_drew)); exact HO_7.out)); (case aS => exact (below_size (by repeat (first | (with_reducible first | exact HB.out | apply below_alloc | apply pw_below_drewN | apply below_drew1 | refine below_set ?_ GE147.out) | exact HB.out)))); (case aL => have := LMc27.out; omega); intro v159 w29 ho hb hg hat; rw [← Ny158.out] at ho; have n0_ := Aside0.mk (Kd.R_over' (by (with_reducible repeat (first | apply Kd.R_alloc | apply Kd.R_drewN | apply Kd.R_drew)); exact HO_5.out) (Kd.R_typed (by (with_reducible repeat (first | apply Kd.R_alloc | apply Kd.R_drewN | apply Kd.R_drew)); exact HO_7.out)) (by decide) hg); have n1_ := Aside0.mk (blk_grown (g := gb147) (o := .cells #[.slice A0_0 l0_0.length c0_0, .slice A0_1 l0_1.length c0_1, .slice A0_2 l0_2.length c0_2] 26 (0, 0)) (by (with_reducible repeat (first | refine blk_drewN ?_ _ | refine blk_drew ?_ | refine blk_alloc ?_ _)); exact BK147.out) hg (Kd.R_ne HO_7.out BK147.out (by decide))); have n2_ := Aside0.mk (hb); have n3_ := Aside0.mk (ho); clear HO_5; clear BK147; clear HB; clear HO_7; have HO_5 := n0_; have BK147 := n1_; have HB := n2_; have HO160 := n3_; clear n0_ n1_ n2_ n3_; clear ho hb hg hat)); try go_wp2_with (first | ((with_reducible refine gate_builtin (b := .append) (xs := #[.tmp 61, .tmp 63]) rfl ?_); at_builtin; refine Kd.R_append (Kd.int .i64) (w0 := w) w.heap.size rfl (.tmp 61) (.tmp 63) 22 3 (.int .i64 0) 8 rfl Tryd.underlying22 info3 rfl (by decide) (by omega) u7 x7_1 x8_1 [.int .i64 x8_1] (fun _ => True) (fun _ => False) rfl rfl ?aP (fun _ hk => hk.elim) ?aF ?aO ?aB ?aS ?aL ?_; (case aP => exact rfl); (case aB => exact (by repeat (first | (with_reducible first | exact HB.out | apply below_alloc | apply pw_below_drewN | apply below_drew1 | refine below_set ?_ GE147.out) | exact HB.out))); (case aF => exact (fun _ _ => trivial)); (case aO => exact (by (with_reducible repeat (first | apply Kd.R_alloc | apply Kd.R_drewN | apply Kd.R_drew)); exact HO_7.out)); (case aS => exact (below_size (by repeat (first | (with_reducible first | exact HB.out | apply below_alloc | apply pw_below_drewN | apply below_drew1 | refine below_set ?_ GE147.out) | exact HB.out)))); (case aL => have := LMc27.out; omega); intro v159 w29 ho hb hg hat; rw [← Ny158.out] at ho; have n0_ := Aside0.mk (Kd.R_over' (by (with_reducible repeat (first | apply Kd.R_alloc | apply Kd.R_drewN | apply Kd.R_drew)); exact HO_5.out) (Kd.R_typed (by (with_reducible repeat (first | apply Kd.R_alloc | apply Kd.R_drewN | apply Kd.R_drew)); exact HO_7.out)) (by decide) hg); have n1_ := Aside0.mk (blk_grown (g := gb147) (o := .cells #[.slice A0_0 l0_0.length c0_0, .slice A0_1 l0_1.length c0_1, .slice A0_2 l0_2.length c0_2] 26 (0, 0)) (by (with_reducible repeat (first | refine blk_drewN ?_ _ | refine blk_drew ?_ | refine blk_alloc ?_ _)); exact BK147.out) hg (Kd.R_ne HO_7.out BK147.out (by decide))); have n2_ := Aside0.mk (hb); have n3_ := Aside0.mk (ho); clear HO_5; clear BK147; clear HB; clear HO_7; have HO_5 := n0_; have BK147 := n1_; have HB := n2_; have HO160 := n3_; clear n0_ n1_ n2_ n3_; clear ho hb hg hat)))
                      go_roundg k2
                      case measure => have := HK1.out; have := HK2.out; omega
                      case rel => exact ⟨(y158), (wrap64 (x8_1 + 1)), (by first | rfl | (simp; done) | (simp [*]; done)), H', ⟨by have := HK1.out; have := HK2.out; omega⟩, ⟨by (with_reducible repeat (first | apply Kd.R_alloc | apply Kd.R_drewN | apply Kd.R_drew)); exact HO_5.out⟩, ⟨by (with_reducible repeat (first | apply Kd.R_alloc | apply Kd.R_drewN | apply Kd.R_drew)); exact HO160.out⟩, ⟨by (with_reducible repeat (first | refine blk_drewN ?_ _ | refine blk_drew ?_ | refine blk_alloc ?_ _)); exact BK147.out⟩, ⟨by repeat (first | (with_reducible first | exact HB.out | apply below_alloc | apply pw_below_drewN | apply below_drew1 | refine below_set ?_ GE147.out) | exact HB.out)⟩⟩
                    · rw [if_neg c27] at H
                      exact absurd H (by simp)
                  · replace c26 := Bool.eq_false_iff.mpr c26
                    subst c26
                    have H1 : (wishbookref10_Whole.l0 k2 t149 x7_1 (wrap64 (x8_1 + 1)) l0_0 l0_1 l0_2) = some (r1, r2) := by rw [if_neg (show ¬ (false = true) by decide)] at H; exact H
                    clear H
                    have H := H1
                    clear H1
                    have H' := Aside0.mk H
                    clear H
                    obtain ⟨Ao30, co30, eo30⟩ := Kd.R_slice HO_5.out
                    subst eo30
                    go_wp2
                    repeat (go_quiet (fail); try go_wp2)
                    go_roundg k2
                    case measure => have := HK1.out; have := HK2.out; omega
                    case rel => exact ⟨(x7_1), (wrap64 (x8_1 + 1)), (by first | rfl | (simp; done) | (simp [*]; done)), H', ⟨by have := HK1.out; have := HK2.out; omega⟩, ⟨by (with_reducible repeat (first | apply Kd.R_alloc | apply Kd.R_drewN | apply Kd.R_drew)); exact HO_5.out⟩, ⟨by (with_reducible repeat (first | apply Kd.R_alloc | apply Kd.R_drewN | apply Kd.R_drew)); exact HO_7.out⟩, ⟨by (with_reducible repeat (first | refine blk_drewN ?_ _ | refine blk_drew ?_ | refine blk_alloc ?_ _)); exact BK147.out⟩, ⟨by repeat (first | (with_reducible first | exact HB.out | apply below_alloc | apply pw_below_drewN | apply below_drew1 | refine below_set ?_ GE147.out) | exact HB.out)⟩⟩
                · replace c25 := Bool.eq_false_iff.mpr c25
                  subst c25
                  have H1 : (wishbookref10_Whole.l0 k2 t149 x7_1 (wrap64 (x8_1 + 1)) l0_0 l0_1 l0_2) = some (r1, r2) := by rw [if_neg (show ¬ (false = true) by decide)] at H; exact H
                  clear H
                  have H := H1
                  clear H1
                  have H' := Aside0.mk H
                  clear H
                  obtain ⟨Ao31, co31, eo31⟩ := Kd.R_slice HO_5.out
                  subst eo31
                  go_wp2
                  repeat (go_quiet (fail); try go_wp2)
                  go_roundg k2
                  case measure => have := HK1.out; have := HK2.out; omega
                  case rel => exact ⟨(x7_1), (wrap64 (x8_1 + 1)), (by first | rfl | (simp; done) | (simp [*]; done)), H', ⟨by have := HK1.out; have := HK2.out; omega⟩, ⟨by (with_reducible repeat (first | apply Kd.R_alloc | apply Kd.R_drewN | apply Kd.R_drew)); exact HO_5.out⟩, ⟨by (with_reducible repeat (first | apply Kd.R_alloc | apply Kd.R_drewN | apply Kd.R_drew)); exact HO_7.out⟩, ⟨by (with_reducible repeat (first | refine blk_drewN ?_ _ | refine blk_drew ?_ | refine blk_alloc ?_ _)); exact BK147.out⟩, ⟨by repeat (first | (with_reducible first | exact HB.out | apply below_alloc | apply pw_below_drewN | apply below_drew1 | refine below_set ?_ GE147.out) | exact HB.out)⟩⟩
        · rw [if_neg c10] at H
          have c10b0 : decide (x8_1 ≤ 9) = false := decide_eq_false c10
          clear c10
          simp only [Option.some.injEq, Prod.mk.injEq] at H
          obtain ⟨rfl, rfl⟩ := H
          go_wp2
          repeat (go_quiet (fail); try go_wp2)
          go_ret2
          exact ⟨_, by first | rfl | (simp [errW_none, errW_some] <;> rfl) | (simp [*, errW_none, errW_some] <;> rfl), by (with_reducible repeat (first | apply Kd.R_alloc | apply Kd.R_drewN | apply Kd.R_drew)); exact HO_7.out, by repeat (first | (with_reducible first | exact HB.out | apply below_alloc | apply pw_below_drewN | apply below_drew1 | refine below_set ?_ GE147.out) | exact HB.out)⟩
  · rw [if_neg c3] at H
    have c3b0 : (t148 == 0) = false := beq_eq_false_iff_ne.mpr c3
    have c3b1 : (t148 != 0) = true := bne_iff_ne.mpr c3
    simp only [Option.some.injEq, Prod.mk.injEq] at H
    obtain ⟨rfl, rfl⟩ := H
    go_enter Tryd.func18, Tryd.ntmps18
    go_wp2_with (first | ((with_reducible refine gate_dst (N := 1) rfl ?_); refine box_event ?hg (N := 1) ?hd (cs := #[.slice A0_0 l0_0.length c0_0, .slice A0_1 l0_1.length c0_1, .slice A0_2 l0_2.length c0_2]) (t := 26) ?hr ?_; (case hd => rfl); (case hg => rfl); (case hr => first | (go_simp; done) | (go_simp; rfl)); intro gb147 hg w32 hbox hb; have n0_ := Aside0.mk (below_step (by repeat (first | (with_reducible first | exact HB.out | apply below_alloc | apply pw_below_drewN | apply below_drew1) | exact HB.out)) hb); have n1_ := Aside0.mk (hbox); have n2_ := Aside0.mk ((by rw [hg]; exact (below_size (by repeat (first | (with_reducible first | exact HB.out | apply below_alloc | apply pw_below_drewN | apply below_drew1) | exact HB.out))) : w.heap.size ≤ gb147)); have n3_ := Aside0.mk ((by rw [hg]; exact (below_size (by repeat (first | (with_reducible first | exact HB.out | apply below_alloc | apply pw_below_drewN | apply below_drew1) | exact HB.out))) : w.heap.size ≤ gb147)); clear HB; have HB := n0_; have BK147 := n1_; have GW147 := n2_; have GE147 := n3_; clear n0_ n1_ n2_ n3_; clear hb hbox hg; have hcz33_0 : w32.cell? ⟨gb147, 0, none⟩ = some (.slice A0_0 l0_0.length c0_0) := (blk_cell BK147.out 0).trans rfl; have hcz33_1 : w32.cell? ⟨gb147, 1, none⟩ = some (.slice A0_1 l0_1.length c0_1) := (blk_cell BK147.out 1).trans rfl; have hcz33_2 : w32.cell? ⟨gb147, 2, none⟩ = some (.slice A0_2 l0_2.length c0_2) := (blk_cell BK147.out 2).trans rfl; have hfz33_0 := blk_frozen BK147.out 0; have hfz33_1 := blk_frozen BK147.out 1; have hfz33_2 := blk_frozen BK147.out 2) | (go_at_call 47; (with_reducible refine (wishbookref10_Check.calls _ _ l0_0 _ _ l0_1 _ _ l0_2 t148 _ ?side1 ?side2 ?side3 ?side4 ?side5 ?side6 A2.out).mono ?_); (case side1 => repeat (first | exact (Kd.C_below HR0_0.out HB.out) | (with_reducible refine Kd.C_alloc ?_ _) | (with_reducible refine Kd.C_drewN ?_ _) | (with_reducible refine Kd.C_drew ?_))); (case side2 => exact HC0_0.out); (case side3 => repeat (first | exact (Kd.C_below HR0_1.out HB.out) | (with_reducible refine Kd.C_alloc ?_ _) | (with_reducible refine Kd.C_drewN ?_ _) | (with_reducible refine Kd.C_drew ?_))); (case side4 => exact HC0_1.out); (case side5 => repeat (first | exact (Kd.C_below HR0_2.out HB.out) | (with_reducible refine Kd.C_alloc ?_ _) | (with_reducible refine Kd.C_drewN ?_ _) | (with_reducible refine Kd.C_drew ?_))); (case side6 => exact HC0_2.out); rintro e w34 ⟨rfl, hb⟩; have n0_ := Aside0.mk (blk_below (g := gb147) (o := .cells #[.slice A0_0 l0_0.length c0_0, .slice A0_1 l0_1.length c0_1, .slice A0_2 l0_2.length c0_2] 26 (0, 0)) (by (with_reducible repeat (first | refine blk_drewN ?_ _ | refine blk_drew ?_ | refine blk_alloc ?_ _)); exact BK147.out) hb); have n1_ := Aside0.mk (below_step (by repeat (first | (with_reducible first | exact HB.out | apply below_alloc | apply pw_below_drewN | apply below_drew1 | refine below_set ?_ GE147.out) | exact HB.out)) hb); clear BK147; clear HB; have BK147 := n0_; have HB := n1_; clear n0_ n1_; (try clear hb); (try clear hb2); (try clear hk); (try clear hi)))
    repeat (go_quiet (first | ((with_reducible refine gate_dst (N := 1) rfl ?_); refine box_event ?hg (N := 1) ?hd (cs := #[.slice A0_0 l0_0.length c0_0, .slice A0_1 l0_1.length c0_1, .slice A0_2 l0_2.length c0_2]) (t := 26) ?hr ?_; (case hd => rfl); (case hg => rfl); (case hr => first | (go_simp; done) | (go_simp; rfl)); intro gb147 hg w32 hbox hb; have n0_ := Aside0.mk (below_step (by repeat (first | (with_reducible first | exact HB.out | apply below_alloc | apply pw_below_drewN | apply below_drew1) | exact HB.out)) hb); have n1_ := Aside0.mk (hbox); have n2_ := Aside0.mk ((by rw [hg]; exact (below_size (by repeat (first | (with_reducible first | exact HB.out | apply below_alloc | apply pw_below_drewN | apply below_drew1) | exact HB.out))) : w.heap.size ≤ gb147)); have n3_ := Aside0.mk ((by rw [hg]; exact (below_size (by repeat (first | (with_reducible first | exact HB.out | apply below_alloc | apply pw_below_drewN | apply below_drew1) | exact HB.out))) : w.heap.size ≤ gb147)); clear HB; have HB := n0_; have BK147 := n1_; have GW147 := n2_; have GE147 := n3_; clear n0_ n1_ n2_ n3_; clear hb hbox hg; have hcz33_0 : w32.cell? ⟨gb147, 0, none⟩ = some (.slice A0_0 l0_0.length c0_0) := (blk_cell BK147.out 0).trans rfl; have hcz33_1 : w32.cell? ⟨gb147, 1, none⟩ = some (.slice A0_1 l0_1.length c0_1) := (blk_cell BK147.out 1).trans rfl; have hcz33_2 : w32.cell? ⟨gb147, 2, none⟩ = some (.slice A0_2 l0_2.length c0_2) := (blk_cell BK147.out 2).trans rfl; have hfz33_0 := blk_frozen BK147.out 0; have hfz33_1 := blk_frozen BK147.out 1; have hfz33_2 := blk_frozen BK147.out 2) | (go_at_call 47; (with_reducible refine (wishbookref10_Check.calls _ _ l0_0 _ _ l0_1 _ _ l0_2 t148 _ ?side1 ?side2 ?side3 ?side4 ?side5 ?side6 A2.out).mono ?_); (case side1 => repeat (first | exact (Kd.C_below HR0_0.out HB.out) | (with_reducible refine Kd.C_alloc ?_ _) | (with_reducible refine Kd.C_drewN ?_ _) | (with_reducible refine Kd.C_drew ?_))); (case side2 => exact HC0_0.out); (case side3 => repeat (first | exact (Kd.C_below HR0_1.out HB.out) | (with_reducible refine Kd.C_alloc ?_ _) | (with_reducible refine Kd.C_drewN ?_ _) | (with_reducible refine Kd.C_drew ?_))); (case side4 => exact HC0_1.out); (case side5 => repeat (first | exact (Kd.C_below HR0_2.out HB.out) | (with_reducible refine Kd.C_alloc ?_ _) | (with_reducible refine Kd.C_drewN ?_ _) | (with_reducible refine Kd.C_drew ?_))); (case side6 => exact HC0_2.out); rintro e w34 ⟨rfl, hb⟩; have n0_ := Aside0.mk (blk_below (g := gb147) (o := .cells #[.slice A0_0 l0_0.length c0_0, .slice A0_1 l0_1.length c0_1, .slice A0_2 l0_2.length c0_2] 26 (0, 0)) (by (with_reducible repeat (first | refine blk_drewN ?_ _ | refine blk_drew ?_ | refine blk_alloc ?_ _)); exact BK147.out) hb); have n1_ := Aside0.mk (below_step (by repeat (first | (with_reducible first | exact HB.out | apply below_alloc | apply pw_below_drewN | apply below_drew1 | refine below_set ?_ GE147.out) | exact HB.out)) hb); clear BK147; clear HB; have BK147 := n0_; have HB := n1_; clear n0_ n1_; (try clear hb); (try clear hb2); (try clear hk); (try clear hi))); try go_wp2_with (first | ((with_reducible refine gate_dst (N := 1) rfl ?_); refine box_event ?hg (N := 1) ?hd (cs := #[.slice A0_0 l0_0.length c0_0, .slice A0_1 l0_1.length c0_1, .slice A0_2 l0_2.length c0_2]) (t := 26) ?hr ?_; (case hd => rfl); (case hg => rfl); (case hr => first | (go_simp; done) | (go_simp; rfl)); intro gb147 hg w32 hbox hb; have n0_ := Aside0.mk (below_step (by repeat (first | (with_reducible first | exact HB.out | apply below_alloc | apply pw_below_drewN | apply below_drew1) | exact HB.out)) hb); have n1_ := Aside0.mk (hbox); have n2_ := Aside0.mk ((by rw [hg]; exact (below_size (by repeat (first | (with_reducible first | exact HB.out | apply below_alloc | apply pw_below_drewN | apply below_drew1) | exact HB.out))) : w.heap.size ≤ gb147)); have n3_ := Aside0.mk ((by rw [hg]; exact (below_size (by repeat (first | (with_reducible first | exact HB.out | apply below_alloc | apply pw_below_drewN | apply below_drew1) | exact HB.out))) : w.heap.size ≤ gb147)); clear HB; have HB := n0_; have BK147 := n1_; have GW147 := n2_; have GE147 := n3_; clear n0_ n1_ n2_ n3_; clear hb hbox hg; have hcz33_0 : w32.cell? ⟨gb147, 0, none⟩ = some (.slice A0_0 l0_0.length c0_0) := (blk_cell BK147.out 0).trans rfl; have hcz33_1 : w32.cell? ⟨gb147, 1, none⟩ = some (.slice A0_1 l0_1.length c0_1) := (blk_cell BK147.out 1).trans rfl; have hcz33_2 : w32.cell? ⟨gb147, 2, none⟩ = some (.slice A0_2 l0_2.length c0_2) := (blk_cell BK147.out 2).trans rfl; have hfz33_0 := blk_frozen BK147.out 0; have hfz33_1 := blk_frozen BK147.out 1; have hfz33_2 := blk_frozen BK147.out 2) | (go_at_call 47; (with_reducible refine (wishbookref10_Check.calls _ _ l0_0 _ _ l0_1 _ _ l0_2 t148 _ ?side1 ?side2 ?side3 ?side4 ?side5 ?side6 A2.out).mono ?_); (case side1 => repeat (first | exact (Kd.C_below HR0_0.out HB.out) | (with_reducible refine Kd.C_alloc ?_ _) | (with_reducible refine Kd.C_drewN ?_ _) | (with_reducible refine Kd.C_drew ?_))); (case side2 => exact HC0_0.out); (case side3 => repeat (first | exact (Kd.C_below HR0_1.out HB.out) | (with_reducible refine Kd.C_alloc ?_ _) | (with_reducible refine Kd.C_drewN ?_ _) | (with_reducible refine Kd.C_drew ?_))); (case side4 => exact HC0_1.out); (case side5 => repeat (first | exact (Kd.C_below HR0_2.out HB.out) | (with_reducible refine Kd.C_alloc ?_ _) | (with_reducible refine Kd.C_drewN ?_ _) | (with_reducible refine Kd.C_drew ?_))); (case side6 => exact HC0_2.out); rintro e w34 ⟨rfl, hb⟩; have n0_ := Aside0.mk (blk_below (g := gb147) (o := .cells #[.slice A0_0 l0_0.length c0_0, .slice A0_1 l0_1.length c0_1, .slice A0_2 l0_2.length c0_2] 26 (0, 0)) (by (with_reducible repeat (first | refine blk_drewN ?_ _ | refine blk_drew ?_ | refine blk_alloc ?_ _)); exact BK147.out) hb); have n1_ := Aside0.mk (below_step (by repeat (first | (with_reducible first | exact HB.out | apply below_alloc | apply pw_below_drewN | apply below_drew1 | refine below_set ?_ GE147.out) | exact HB.out)) hb); clear BK147; clear HB; have BK147 := n0_; have HB := n1_; clear n0_ n1_; (try clear hb); (try clear hb2); (try clear hk); (try clear hi))))
    go_ret2
    exact ⟨_, by first | rfl | (simp [errW_none, errW_some] <;> rfl) | (simp [*, errW_none, errW_some] <;> rfl), by first | exact Kd.R_nil _ _ _ _ _ | exact Kd.N_nil _ _ _ _ _ | exact Kd.V_nil _ _ _ _ _ | exact Kd.Q_nil _ _ _ _ _ | exact Kd.S_nil _ _ _ _ _, by repeat (first | (with_reducible first | exact HB.out | apply below_alloc | apply pw_below_drewN | apply below_drew1 | refine below_set ?_ GE147.out) | exact HB.out)⟩
def wishbookref10_SameShares.l0 : Nat → List (S49) → List (S49) → Bool → Int → Option (Bool)
  | 0, _, _, _, _ => none
  | k + 1, x0, x1, x5, x6 => if x5 = true then (if x6 < (x0.length : Int) then (if 0 ≤ x6 then (if x6 < (x1.length : Int) then (wishbookref10_SameShares.l0 k x0 x1 (((rd_T49 x0 x6).f0) == ((rd_T49 x1 x6).f0) && (((rd_T49 x0 x6).f1) == ((rd_T49 x1 x6).f1) && (((rd_T49 x0 x6).f2) == ((rd_T49 x1 x6).f2) && (((rd_T49 x0 x6).f3) == ((rd_T49 x1 x6).f3))))) (wrap64 (x6 + 1))) else (none)) else (none)) else (some x5)) else (some x5)
def wishbookref10_SameShares.f (k : Nat) (l0 : List (S49)) (l1 : List (S49)) : Option (Bool) := wishbookref10_SameShares.l0 k l0 l1 ((l0.length : Int) == (l1.length : Int)) 0
theorem wishbookref10_SameShares.mono_l : ∀ k, (∀ y0 y1 y2 y3, LeO (wishbookref10_SameShares.l0 k y0 y1 y2 y3) (wishbookref10_SameShares.l0 (k + 1) y0 y1 y2 y3))
  | 0 => fun _ _ _ _ r h => by simp [wishbookref10_SameShares.l0] at h
  | k + 1 => by
    have ih0 := wishbookref10_SameShares.mono_l k
    · intro y0 y1 y2 y3
      unfold wishbookref10_SameShares.l0
      repeat' first
      | (with_reducible exact ih0 _ _ _ _)
      | (with_reducible exact LeO.refl _)
      | (with_reducible exact LeO.none _)
      | (with_reducible refine LeO.ite ?_ ?_)
      | (with_reducible refine LeO.bind ?_ (fun _ => ?_))
      | exact ih0 _ _ _ _
      | exact LeO.none _
      | refine LeO.ite ?_ ?_
      | refine LeO.bind ?_ (fun _ => ?_)
theorem wishbookref10_SameShares.mono : ∀ a0 a1 k, LeO (wishbookref10_SameShares.f k a0 a1) (wishbookref10_SameShares.f (k + 1) a0 a1) := by
  intro a0 a1 k
  have ih0 := wishbookref10_SameShares.mono_l k
  unfold wishbookref10_SameShares.f
  repeat' first
      | (with_reducible exact ih0 _ _ _ _)
      | (with_reducible exact LeO.refl _)
      | (with_reducible exact LeO.none _)
      | (with_reducible refine LeO.ite ?_ ?_)
      | (with_reducible refine LeO.bind ?_ (fun _ => ?_))
      | exact ih0 _ _ _ _
      | exact LeO.none _
      | refine LeO.ite ?_ ?_
      | refine LeO.bind ?_ (fun _ => ?_)
set_option maxHeartbeats 8000000 in
set_option maxRecDepth 100000 in
theorem wishbookref10_SameShares.calls (k : Nat) (A0 : Option Addr) (c0 : Nat) (l0 : List (S49)) (A1 : Option Addr) (c1 : Nat) (l1 : List (S49)) (r : Bool) (w : World) (hr0 : Kd.C k49 w A0 l0.length l0) (hc0 : l0.length ≤ c0) (hr1 : Kd.C k49 w A1 l1.length l1) (hc1 : l1.length ≤ c1) (h : wishbookref10_SameShares.f k l0 l1 = some r) :
    Calls Tryd.prog 37 #[.slice A0 l0.length c0, .slice A1 l1.length c1] w fun e w' => e = .returned (.bool r) ∧ Drawn0 w w' := by
  have hu49 := Tryd.underlying49
  have HR0 := Aside0.mk hr0
  have HC0 := Aside0.mk hc0
  clear hr0 hc0
  have HR1 := Aside0.mk hr1
  have HC1 := Aside0.mk hc1
  clear hr1 hc1
  have H : (wishbookref10_SameShares.l0 k l0 l1 ((l0.length : Int) == (l1.length : Int)) 0) = some r := h
  clear h
  have H' := Aside0.mk H
  clear H
  go_enter Tryd.func37, Tryd.ntmps37
  go_wp2
  repeat (go_quiet (fail); try go_wp2)
  go_loopg [5, 6] k (fun kq v5 v6 w' => ∃ (x5_1 : Bool) (x6_1 : Int), v5 = .bool x5_1 ∧ v6 = .int .i64 x6_1 ∧ Aside0 (wishbookref10_SameShares.l0 kq l0 l1 x5_1 x6_1 = some r) ∧ Aside0 (kq ≤ k) ∧ Drawn0 w w')
  case atStart => exact ⟨(((l0.length : Int) == (l1.length : Int))), (0), (by first | rfl | (simp; done) | (simp [*]; done)), (by first | rfl | (simp; done) | (simp [*]; done)), H', ⟨Nat.le_refl _⟩, by repeat (first | exact Drawn0.refl _ | apply Drawn0.step)⟩
  case round =>
    clear H'
    try clear c1
    try clear p2
    obtain ⟨x5_1, x6_1, rfl, rfl, HA, HK1, ⟨m1, rfl⟩⟩ := hrel
    cases gk with
    | zero => exact absurd HA.out (by simp [wishbookref10_SameShares.l0])
    | succ k1 =>
      have H := HA.out
      clear HA
      simp only [wishbookref10_SameShares.l0] at H
      by_cases c3 : x5_1 = true
      · subst c3
        have H1 : (if x6_1 < (l0.length : Int) then (if 0 ≤ x6_1 then (if x6_1 < (l1.length : Int) then (wishbookref10_SameShares.l0 k1 l0 l1 (((rd_T49 l0 x6_1).f0) == ((rd_T49 l1 x6_1).f0) && (((rd_T49 l0 x6_1).f1) == ((rd_T49 l1 x6_1).f1) && (((rd_T49 l0 x6_1).f2) == ((rd_T49 l1 x6_1).f2) && (((rd_T49 l0 x6_1).f3) == ((rd_T49 l1 x6_1).f3))))) (wrap64 (x6_1 + 1))) else (none)) else (none)) else (some true)) = some r := by rw [if_pos rfl] at H; exact H
        clear H
        have H := H1
        clear H1
        by_cases c4 : x6_1 < (l0.length : Int)
        · rw [if_pos c4] at H
          have c4b0 : decide (x6_1 < (l0.length : Int)) = true := decide_eq_true c4
          clear c4
          by_cases c5 : 0 ≤ x6_1
          · rw [if_pos c5] at H
            have c5b0 : decide (0 ≤ x6_1) = true := decide_eq_true c5
            clear c5
            by_cases c6 : x6_1 < (l1.length : Int)
            · rw [if_pos c6] at H
              have c6b0 : decide (x6_1 < (l1.length : Int)) = true := decide_eq_true c6
              clear c6
              have H' := Aside0.mk H
              clear H
              have p161 : 0 ≤ (x6_1 : Int) := of_decide_eq_true (by first | (with_reducible assumption) | assumption)
              have q161 : x6_1 < (l0.length : Int) := of_decide_eq_true (by first | (with_reducible assumption) | assumption)
              obtain ⟨ad161, e161, hx161_0, hx161_1, hx161_2, hx161_3⟩ := at_T49 HR0.out x6_1 p161 q161
              cases e161
              replace p161 := eq_true p161
              replace q161 := eq_true q161
              have p162 : 0 ≤ (x6_1 : Int) := of_decide_eq_true (by first | (with_reducible assumption) | assumption)
              have q162 : x6_1 < (l1.length : Int) := of_decide_eq_true (by first | (with_reducible assumption) | assumption)
              obtain ⟨ad162, e162, hx162_0, hx162_1, hx162_2, hx162_3⟩ := at_T49 HR1.out x6_1 p162 q162
              cases e162
              replace p162 := eq_true p162
              replace q162 := eq_true q162
              go_wp2
              repeat (go_quiet (fail); try go_wp2)
              go_roundg k1
              case measure => have := HK1.out; omega
              case rel => exact ⟨((((rd_T49 l0 x6_1).f0) == ((rd_T49 l1 x6_1).f0) && (((rd_T49 l0 x6_1).f1) == ((rd_T49 l1 x6_1).f1) && (((rd_T49 l0 x6_1).f2) == ((rd_T49 l1 x6_1).f2) && (((rd_T49 l0 x6_1).f3) == ((rd_T49 l1 x6_1).f3)))))), (wrap64 (x6_1 + 1)), (by first | rfl | (simp; done) | (simp [*]; done)), (by first | rfl | (simp; done) | (simp [*]; done)), H', ⟨by have := HK1.out; omega⟩, by repeat (first | exact Drawn0.refl _ | apply Drawn0.step)⟩
            · rw [if_neg c6] at H
              exact absurd H (by simp)
          · rw [if_neg c5] at H
            exact absurd H (by simp)
        · rw [if_neg c4] at H
          have c4b0 : decide (x6_1 < (l0.length : Int)) = false := decide_eq_false c4
          clear c4
          obtain rfl := Option.some.inj H
          go_wp2
          repeat (go_quiet (fail); try go_wp2)
          go_ret
          exact ⟨by first | rfl | (simp; done) | (simp [*]; done), by repeat (first | exact Drawn0.refl _ | apply Drawn0.step)⟩
      · replace c3 := Bool.eq_false_iff.mpr c3
        subst c3
        have H1 : (some false) = some r := by rw [if_neg (show ¬ (false = true) by decide)] at H; exact H
        clear H
        have H := H1
        clear H1
        obtain rfl := Option.some.inj H
        go_wp2
        repeat (go_quiet (fail); try go_wp2)
        go_ret
        exact ⟨by first | rfl | (simp; done) | (simp [*]; done), by repeat (first | exact Drawn0.refl _ | apply Drawn0.step)⟩
def wishbookref00_To.f (a0 : Int) (a1 : Int) : Option (Int × Int) := some (a0, a1)
set_option maxHeartbeats 8000000 in
set_option maxRecDepth 100000 in
theorem wishbookref00_To.calls (a0 : Int) (a1 : Int) (r1 : Int) (r2 : Int) (w : World) (h : wishbookref00_To.f a0 a1 = some (r1, r2)) :
    Calls Tryd.prog 40 #[.int .i64 a0, .int .i64 a1] w fun e w' => e = .returned (.agg #[.int .i64 r1, .int .i64 r2]) ∧ Below w.heap.size w w' := by
  have hu55 := Tryd.underlying55
  have HB := Aside0.mk (Below.refl w.heap.size w)
  have H : (some (a0, a1)) = some (r1, r2) := h
  clear h
  simp only [Option.some.injEq, Prod.mk.injEq] at H
  obtain ⟨rfl, rfl⟩ := H
  go_enter Tryd.func40, Tryd.ntmps40
  go_wp2_with (first | ((with_reducible refine gate_dst (N := 4) rfl ?_); refine box_event ?hg (N := 4) ?hd (cs := #[.int .i64 0, .int .i64 0]) (t := 55) ?hr ?_; (case hd => rfl); (case hg => rfl); (case hr => first | (go_simp; done) | (go_simp; rfl)); intro gb163 hg w3 hbox hb; have n0_ := Aside0.mk (below_step (by repeat (first | (with_reducible first | exact HB.out | apply below_alloc | apply pw_below_drewN | apply below_drew1) | exact HB.out)) hb); have n1_ := Aside0.mk (hbox); have n2_ := Aside0.mk ((by rw [hg]; exact (below_size (by repeat (first | (with_reducible first | exact HB.out | apply below_alloc | apply pw_below_drewN | apply below_drew1) | exact HB.out))) : w.heap.size ≤ gb163)); have n3_ := Aside0.mk ((by rw [hg]; exact (below_size (by repeat (first | (with_reducible first | exact HB.out | apply below_alloc | apply pw_below_drewN | apply below_drew1) | exact HB.out))) : w.heap.size ≤ gb163)); clear HB; have HB := n0_; have BK163 := n1_; have GW163 := n2_; have GE163 := n3_; clear n0_ n1_ n2_ n3_; clear hb hbox hg; have hcz4_0 : w3.cell? ⟨gb163, 0, none⟩ = some (.int .i64 0) := (blk_cell BK163.out 0).trans rfl; have hcz4_1 : w3.cell? ⟨gb163, 1, none⟩ = some (.int .i64 0) := (blk_cell BK163.out 1).trans rfl; have hfz4_0 := blk_frozen BK163.out 0; have hfz4_1 := blk_frozen BK163.out 1))
  refine bodyPost_ret (results_cell_row rfl _ _ gb163 55 #[.int .i64 a0, .int .i64 a1] (0, 0) _ rfl (by (with_reducible repeat (first | refine blk_drewN ?_ _ | refine blk_drew ?_ | refine blk_alloc ?_ _)); refine blk_put (cs := #[.int .i64 a0, .int .i64 0]) ?_ 1 _ rfl; (with_reducible repeat (first | refine blk_drewN ?_ _ | refine blk_drew ?_ | refine blk_alloc ?_ _)); refine blk_put (cs := #[.int .i64 0, .int .i64 0]) ?_ 0 _ rfl; (with_reducible repeat (first | refine blk_drewN ?_ _ | refine blk_drew ?_ | refine blk_alloc ?_ _)); exact BK163.out) Tryd.underlying55 rfl (by kernel_rfl)) rfl ?_
  exact ⟨by first | rfl | (simp [errW_none, errW_some] <;> rfl) | (simp [*, errW_none, errW_some] <;> rfl), by repeat (first | (with_reducible first | exact HB.out | apply below_alloc | apply pw_below_drewN | apply below_drew1 | refine below_set ?_ GE163.out) | exact HB.out)⟩
def wishbooklaw10_delivery.f (a0 : Int) (a1 : Int) (a2 : Int) (a3 : Int) (a4 : Int) : Option (Int × Int × Int × Int × Int) := (wishbookref00_To.f a1 a2).bind fun bt165 => ((wishbookref00_To.f a3 a4).bind fun bt167 => (some (a0, bt165.1, bt165.2, bt167.1, bt167.2)))
set_option maxHeartbeats 8000000 in
set_option maxRecDepth 100000 in
theorem wishbooklaw10_delivery.calls (a0 : Int) (a1 : Int) (a2 : Int) (a3 : Int) (a4 : Int) (r1 : Int) (r2 : Int) (r3 : Int) (r4 : Int) (r5 : Int) (w : World) (h : wishbooklaw10_delivery.f a0 a1 a2 a3 a4 = some (r1, r2, r3, r4, r5)) :
    Calls Tryd.prog 39 #[.int .i64 a0, .int .i64 a1, .int .i64 a2, .int .i64 a3, .int .i64 a4] w fun e w' => e = .returned (.agg #[.int .i64 r1, .int .i64 r2, .int .i64 r3, .int .i64 r4, .int .i64 r5]) ∧ Below w.heap.size w w' := by
  have hu57 := Tryd.underlying57
  have HB := Aside0.mk (Below.refl w.heap.size w)
  have H : ((wishbookref00_To.f a1 a2).bind fun bt165 => ((wishbookref00_To.f a3 a4).bind fun bt167 => (some (a0, bt165.1, bt165.2, bt167.1, bt167.2)))) = some (r1, r2, r3, r4, r5) := h
  clear h
  replace H := Option.bind_eq_some_iff.mp H
  obtain ⟨⟨t165, t166⟩, A60, H⟩ := H
  replace H : ((wishbookref00_To.f a3 a4).bind fun bt167 => (some (a0, t165, t166, bt167.1, bt167.2))) = some (r1, r2, r3, r4, r5) := H
  have A6 := Aside0.mk A60
  clear A60
  replace H := Option.bind_eq_some_iff.mp H
  obtain ⟨⟨t167, t168⟩, A70, H⟩ := H
  replace H : (some (a0, t165, t166, t167, t168)) = some (r1, r2, r3, r4, r5) := H
  have A7 := Aside0.mk A70
  clear A70
  simp only [Option.some.injEq, Prod.mk.injEq] at H
  obtain ⟨rfl, rfl, rfl, rfl, rfl⟩ := H
  go_enter Tryd.func39, Tryd.ntmps39
  go_wp2_with (first | ((with_reducible refine gate_dst (N := 10) rfl ?_); refine box_event ?hg (N := 10) ?hd (cs := #[.int .i64 0, .int .i64 0, .int .i64 0, .int .i64 0, .int .i64 0]) (t := 57) ?hr ?_; (case hd => rfl); (case hg => rfl); (case hr => first | (go_simp; done) | (go_simp; rfl)); intro gb164 hg w8 hbox hb; have n0_ := Aside0.mk (below_step (by repeat (first | (with_reducible first | exact HB.out | apply below_alloc | apply pw_below_drewN | apply below_drew1) | exact HB.out)) hb); have n1_ := Aside0.mk (hbox); have n2_ := Aside0.mk ((by rw [hg]; exact (below_size (by repeat (first | (with_reducible first | exact HB.out | apply below_alloc | apply pw_below_drewN | apply below_drew1) | exact HB.out))) : w.heap.size ≤ gb164)); have n3_ := Aside0.mk ((by rw [hg]; exact (below_size (by repeat (first | (with_reducible first | exact HB.out | apply below_alloc | apply pw_below_drewN | apply below_drew1) | exact HB.out))) : w.heap.size ≤ gb164)); clear HB; have HB := n0_; have BK164 := n1_; have GW164 := n2_; have GE164 := n3_; clear n0_ n1_ n2_ n3_; clear hb hbox hg) | ((with_reducible refine gate_callee (f := 40) rfl ?_); refine goesL_ (some 14) rfl rfl Tryd.func40 (by kernel_rfl) rfl #[.int .i64 a1, .int .i64 a2] rfl (by (try simp only [List.map_toArray, List.map_cons, List.map_nil]); first | done | rfl | (simp only [List.length_drop, List.length_take]; rfl)) ?_; (with_reducible refine (wishbookref00_To.calls a1 a2 t165 t166 _ A6.out).mono ?_); rintro e w9 ⟨rfl, hb⟩; refine ⟨_, rfl, ?_⟩; have n0_ := Aside0.mk (blk_below (g := gb164) (o := .cells #[.int .i64 0, .int .i64 0, .int .i64 0, .int .i64 0, .int .i64 0] 57 (0, 0)) (by (with_reducible repeat (first | refine blk_drewN ?_ _ | refine blk_drew ?_ | refine blk_alloc ?_ _)); exact BK164.out) hb); have n1_ := Aside0.mk (below_step (by repeat (first | (with_reducible first | exact HB.out | apply below_alloc | apply pw_below_drewN | apply below_drew1 | refine below_set ?_ GE164.out) | exact HB.out)) hb); clear BK164; clear HB; have BK164 := n0_; have HB := n1_; clear n0_ n1_; (try clear hb); (try clear hb2); (try clear hk); (try clear hi)) | ((with_reducible refine gate_callee (f := 40) rfl ?_); refine goesL_ (some 17) rfl rfl Tryd.func40 (by kernel_rfl) rfl #[.int .i64 a3, .int .i64 a4] rfl (by (try simp only [List.map_toArray, List.map_cons, List.map_nil]); first | done | rfl | (simp only [List.length_drop, List.length_take]; rfl)) ?_; (with_reducible refine (wishbookref00_To.calls a3 a4 t167 t168 _ A7.out).mono ?_); rintro e w10 ⟨rfl, hb⟩; refine ⟨_, rfl, ?_⟩; have n0_ := Aside0.mk (blk_below (g := gb164) (o := .cells #[.int .i64 0, .int .i64 0, .int .i64 0, .int .i64 0, .int .i64 0] 57 (0, 0)) (by (with_reducible repeat (first | refine blk_drewN ?_ _ | refine blk_drew ?_ | refine blk_alloc ?_ _)); exact BK164.out) hb); have n1_ := Aside0.mk (below_step (by repeat (first | (with_reducible first | exact HB.out | apply below_alloc | apply pw_below_drewN | apply below_drew1 | refine below_set ?_ GE164.out) | exact HB.out)) hb); clear BK164; clear HB; have BK164 := n0_; have HB := n1_; clear n0_ n1_; (try clear hb); (try clear hb2); (try clear hk); (try clear hi); have hcz11_0 : w10.cell? ⟨gb164, 0, none⟩ = some (.int .i64 0) := (blk_cell BK164.out 0).trans rfl; have hcz11_1 : w10.cell? ⟨gb164, 1, none⟩ = some (.int .i64 0) := (blk_cell BK164.out 1).trans rfl; have hcz11_2 : w10.cell? ⟨gb164, 2, none⟩ = some (.int .i64 0) := (blk_cell BK164.out 2).trans rfl; have hcz11_3 : w10.cell? ⟨gb164, 3, none⟩ = some (.int .i64 0) := (blk_cell BK164.out 3).trans rfl; have hcz11_4 : w10.cell? ⟨gb164, 4, none⟩ = some (.int .i64 0) := (blk_cell BK164.out 4).trans rfl; have hfz11_0 := blk_frozen BK164.out 0; have hfz11_1 := blk_frozen BK164.out 1; have hfz11_2 := blk_frozen BK164.out 2; have hfz11_3 := blk_frozen BK164.out 3; have hfz11_4 := blk_frozen BK164.out 4))
  refine bodyPost_ret (results_cell_row rfl _ _ gb164 57 #[.int .i64 a0, .int .i64 t165, .int .i64 t166, .int .i64 t167, .int .i64 t168] (0, 0) _ rfl (by (with_reducible repeat (first | refine blk_drewN ?_ _ | refine blk_drew ?_ | refine blk_alloc ?_ _)); refine blk_put (cs := #[.int .i64 a0, .int .i64 t165, .int .i64 t166, .int .i64 t167, .int .i64 0]) ?_ 4 _ rfl; (with_reducible repeat (first | refine blk_drewN ?_ _ | refine blk_drew ?_ | refine blk_alloc ?_ _)); refine blk_put (cs := #[.int .i64 a0, .int .i64 t165, .int .i64 t166, .int .i64 0, .int .i64 0]) ?_ 3 _ rfl; (with_reducible repeat (first | refine blk_drewN ?_ _ | refine blk_drew ?_ | refine blk_alloc ?_ _)); refine blk_put (cs := #[.int .i64 a0, .int .i64 t165, .int .i64 0, .int .i64 0, .int .i64 0]) ?_ 2 _ rfl; (with_reducible repeat (first | refine blk_drewN ?_ _ | refine blk_drew ?_ | refine blk_alloc ?_ _)); refine blk_put (cs := #[.int .i64 a0, .int .i64 0, .int .i64 0, .int .i64 0, .int .i64 0]) ?_ 1 _ rfl; (with_reducible repeat (first | refine blk_drewN ?_ _ | refine blk_drew ?_ | refine blk_alloc ?_ _)); refine blk_put (cs := #[.int .i64 0, .int .i64 0, .int .i64 0, .int .i64 0, .int .i64 0]) ?_ 0 _ rfl; (with_reducible repeat (first | refine blk_drewN ?_ _ | refine blk_drew ?_ | refine blk_alloc ?_ _)); exact BK164.out) Tryd.underlying57 rfl (by kernel_rfl)) rfl ?_
  exact ⟨by first | rfl | (simp [errW_none, errW_some] <;> rfl) | (simp [*, errW_none, errW_some] <;> rfl), by repeat (first | (with_reducible first | exact HB.out | apply below_alloc | apply pw_below_drewN | apply below_drew1 | refine below_set ?_ GE164.out) | exact HB.out)⟩
def wishbooklaw10_line.f (a0 : Int) (a1 : Int) (a2 : Int) (a3 : Int) (a4 : Int) : Option (Int × Int × Int × Int × Int) := some (a0, a1, a2, a3, a4)
set_option maxHeartbeats 8000000 in
set_option maxRecDepth 100000 in
theorem wishbooklaw10_line.calls (a0 : Int) (a1 : Int) (a2 : Int) (a3 : Int) (a4 : Int) (r1 : Int) (r2 : Int) (r3 : Int) (r4 : Int) (r5 : Int) (w : World) (h : wishbooklaw10_line.f a0 a1 a2 a3 a4 = some (r1, r2, r3, r4, r5)) :
    Calls Tryd.prog 68 #[.int .i64 a0, .int .i64 a1, .int .i64 a2, .int .i64 a3, .int .i64 a4] w fun e w' => e = .returned (.agg #[.int .i64 r1, .int .i64 r2, .int .i64 r3, .int .i64 r4, .int .i64 r5]) ∧ Below w.heap.size w w' := by
  have hu47 := Tryd.underlying47
  have HB := Aside0.mk (Below.refl w.heap.size w)
  have H : (some (a0, a1, a2, a3, a4)) = some (r1, r2, r3, r4, r5) := h
  clear h
  simp only [Option.some.injEq, Prod.mk.injEq] at H
  obtain ⟨rfl, rfl, rfl, rfl, rfl⟩ := H
  go_enter Tryd.func68, Tryd.ntmps68
  go_wp2_with (first | ((with_reducible refine gate_dst (N := 10) rfl ?_); refine box_event ?hg (N := 10) ?hd (cs := #[.int .i64 0, .int .i64 0, .int .i64 0, .int .i64 0, .int .i64 0]) (t := 47) ?hr ?_; (case hd => rfl); (case hg => rfl); (case hr => first | (go_simp; done) | (go_simp; rfl)); intro gb169 hg w6 hbox hb; have n0_ := Aside0.mk (below_step (by repeat (first | (with_reducible first | exact HB.out | apply below_alloc | apply pw_below_drewN | apply below_drew1) | exact HB.out)) hb); have n1_ := Aside0.mk (hbox); have n2_ := Aside0.mk ((by rw [hg]; exact (below_size (by repeat (first | (with_reducible first | exact HB.out | apply below_alloc | apply pw_below_drewN | apply below_drew1) | exact HB.out))) : w.heap.size ≤ gb169)); have n3_ := Aside0.mk ((by rw [hg]; exact (below_size (by repeat (first | (with_reducible first | exact HB.out | apply below_alloc | apply pw_below_drewN | apply below_drew1) | exact HB.out))) : w.heap.size ≤ gb169)); clear HB; have HB := n0_; have BK169 := n1_; have GW169 := n2_; have GE169 := n3_; clear n0_ n1_ n2_ n3_; clear hb hbox hg; have hcz7_0 : w6.cell? ⟨gb169, 0, none⟩ = some (.int .i64 0) := (blk_cell BK169.out 0).trans rfl; have hcz7_1 : w6.cell? ⟨gb169, 1, none⟩ = some (.int .i64 0) := (blk_cell BK169.out 1).trans rfl; have hcz7_2 : w6.cell? ⟨gb169, 2, none⟩ = some (.int .i64 0) := (blk_cell BK169.out 2).trans rfl; have hcz7_3 : w6.cell? ⟨gb169, 3, none⟩ = some (.int .i64 0) := (blk_cell BK169.out 3).trans rfl; have hcz7_4 : w6.cell? ⟨gb169, 4, none⟩ = some (.int .i64 0) := (blk_cell BK169.out 4).trans rfl; have hfz7_0 := blk_frozen BK169.out 0; have hfz7_1 := blk_frozen BK169.out 1; have hfz7_2 := blk_frozen BK169.out 2; have hfz7_3 := blk_frozen BK169.out 3; have hfz7_4 := blk_frozen BK169.out 4))
  refine bodyPost_ret (results_cell_row rfl _ _ gb169 47 #[.int .i64 a0, .int .i64 a1, .int .i64 a2, .int .i64 a3, .int .i64 a4] (0, 0) _ rfl (by (with_reducible repeat (first | refine blk_drewN ?_ _ | refine blk_drew ?_ | refine blk_alloc ?_ _)); refine blk_put (cs := #[.int .i64 a0, .int .i64 a1, .int .i64 a2, .int .i64 a3, .int .i64 0]) ?_ 4 _ rfl; (with_reducible repeat (first | refine blk_drewN ?_ _ | refine blk_drew ?_ | refine blk_alloc ?_ _)); refine blk_put (cs := #[.int .i64 a0, .int .i64 a1, .int .i64 a2, .int .i64 0, .int .i64 0]) ?_ 3 _ rfl; (with_reducible repeat (first | refine blk_drewN ?_ _ | refine blk_drew ?_ | refine blk_alloc ?_ _)); refine blk_put (cs := #[.int .i64 a0, .int .i64 a1, .int .i64 0, .int .i64 0, .int .i64 0]) ?_ 2 _ rfl; (with_reducible repeat (first | refine blk_drewN ?_ _ | refine blk_drew ?_ | refine blk_alloc ?_ _)); refine blk_put (cs := #[.int .i64 a0, .int .i64 0, .int .i64 0, .int .i64 0, .int .i64 0]) ?_ 1 _ rfl; (with_reducible repeat (first | refine blk_drewN ?_ _ | refine blk_drew ?_ | refine blk_alloc ?_ _)); refine blk_put (cs := #[.int .i64 0, .int .i64 0, .int .i64 0, .int .i64 0, .int .i64 0]) ?_ 0 _ rfl; (with_reducible repeat (first | refine blk_drewN ?_ _ | refine blk_drew ?_ | refine blk_alloc ?_ _)); exact BK169.out) Tryd.underlying47 rfl (by kernel_rfl)) rfl ?_
  exact ⟨by first | rfl | (simp [errW_none, errW_some] <;> rfl) | (simp [*, errW_none, errW_some] <;> rfl), by repeat (first | (with_reducible first | exact HB.out | apply below_alloc | apply pw_below_drewN | apply below_drew1 | refine below_set ?_ GE169.out) | exact HB.out)⟩
def wishbooklaw10_book.f  : Option (List Int × (List (S47)) × (List (S57))) := (wishbooklaw10_line.f 0 0 3 10 (-1)).bind fun bt174 => ((wishbooklaw10_line.f 0 1 4 20 0).bind fun bt179 => ((wishbooklaw10_line.f 1 2 6 30 (-1)).bind fun bt184 => ((wishbooklaw10_line.f 2 2 5 15 (-1)).bind fun bt189 => ((wishbooklaw10_line.f 2 0 2 40 (-1)).bind fun bt194 => ((wishbooklaw10_delivery.f 2 5 12 4 6).bind fun bt202 => ((wishbooklaw10_delivery.f 2 20 28 3 9).bind fun bt207 => ((wishbooklaw10_delivery.f 0 30 35 1 1).bind fun bt212 => (some ((([5, 2, 0] : List Int)), (([(⟨bt174.1, bt174.2.1, bt174.2.2.1, bt174.2.2.2.1, bt174.2.2.2.2⟩ : S47), (⟨bt179.1, bt179.2.1, bt179.2.2.1, bt179.2.2.2.1, bt179.2.2.2.2⟩ : S47), (⟨bt184.1, bt184.2.1, bt184.2.2.1, bt184.2.2.2.1, bt184.2.2.2.2⟩ : S47), (⟨bt189.1, bt189.2.1, bt189.2.2.1, bt189.2.2.2.1, bt189.2.2.2.2⟩ : S47), (⟨bt194.1, bt194.2.1, bt194.2.2.1, bt194.2.2.2.1, bt194.2.2.2.2⟩ : S47)] : List (S47))), (([(⟨bt202.1, (⟨bt202.2.1, bt202.2.2.1⟩ : S55), (⟨bt202.2.2.2.1, bt202.2.2.2.2⟩ : S55)⟩ : S57), (⟨bt207.1, (⟨bt207.2.1, bt207.2.2.1⟩ : S55), (⟨bt207.2.2.2.1, bt207.2.2.2.2⟩ : S55)⟩ : S57), (⟨bt212.1, (⟨bt212.2.1, bt212.2.2.1⟩ : S55), (⟨bt212.2.2.2.1, bt212.2.2.2.2⟩ : S55)⟩ : S57)] : List (S57))))))))))))
set_option maxHeartbeats 8000000 in
set_option maxRecDepth 100000 in
theorem wishbooklaw10_book.calls  (r1 : List Int) (r2 : List (S47)) (r3 : List (S57)) (w : World) (h : wishbooklaw10_book.f  = some (r1, r2, r3)) :
    Calls Tryd.prog 43 #[] w fun e w' => ∃ v0_ v1_ v2_ : Value, e = .returned (.agg #[v0_, v1_, v2_]) ∧ Kd.R (Kd.int .i64) 3 w' w.heap.size (fun _ => True) v0_ r1 ∧ Kd.R k47 47 w' w.heap.size (fun _ => True) v1_ r2 ∧ Kd.R k57 57 w' w.heap.size (fun _ => True) v2_ r3 ∧ Below w.heap.size w w' := by
  have hu26 := Tryd.underlying26
  have HB := Aside0.mk (Below.refl w.heap.size w)
  have H : ((wishbooklaw10_line.f 0 0 3 10 (-1)).bind fun bt174 => ((wishbooklaw10_line.f 0 1 4 20 0).bind fun bt179 => ((wishbooklaw10_line.f 1 2 6 30 (-1)).bind fun bt184 => ((wishbooklaw10_line.f 2 2 5 15 (-1)).bind fun bt189 => ((wishbooklaw10_line.f 2 0 2 40 (-1)).bind fun bt194 => ((wishbooklaw10_delivery.f 2 5 12 4 6).bind fun bt202 => ((wishbooklaw10_delivery.f 2 20 28 3 9).bind fun bt207 => ((wishbooklaw10_delivery.f 0 30 35 1 1).bind fun bt212 => (some ((([5, 2, 0] : List Int)), (([(⟨bt174.1, bt174.2.1, bt174.2.2.1, bt174.2.2.2.1, bt174.2.2.2.2⟩ : S47), (⟨bt179.1, bt179.2.1, bt179.2.2.1, bt179.2.2.2.1, bt179.2.2.2.2⟩ : S47), (⟨bt184.1, bt184.2.1, bt184.2.2.1, bt184.2.2.2.1, bt184.2.2.2.2⟩ : S47), (⟨bt189.1, bt189.2.1, bt189.2.2.1, bt189.2.2.2.1, bt189.2.2.2.2⟩ : S47), (⟨bt194.1, bt194.2.1, bt194.2.2.1, bt194.2.2.2.1, bt194.2.2.2.2⟩ : S47)] : List (S47))), (([(⟨bt202.1, (⟨bt202.2.1, bt202.2.2.1⟩ : S55), (⟨bt202.2.2.2.1, bt202.2.2.2.2⟩ : S55)⟩ : S57), (⟨bt207.1, (⟨bt207.2.1, bt207.2.2.1⟩ : S55), (⟨bt207.2.2.2.1, bt207.2.2.2.2⟩ : S55)⟩ : S57), (⟨bt212.1, (⟨bt212.2.1, bt212.2.2.1⟩ : S55), (⟨bt212.2.2.2.1, bt212.2.2.2.2⟩ : S55)⟩ : S57)] : List (S57))))))))))))) = some (r1, r2, r3) := h
  clear h
  obtain ⟨y171, hy171⟩ : ∃ y_ : List Int, y_ = (([5, 2, 0] : List Int)) := ⟨_, rfl⟩
  replace H : ((wishbooklaw10_line.f 0 0 3 10 (-1)).bind fun bt174 => ((wishbooklaw10_line.f 0 1 4 20 0).bind fun bt179 => ((wishbooklaw10_line.f 1 2 6 30 (-1)).bind fun bt184 => ((wishbooklaw10_line.f 2 2 5 15 (-1)).bind fun bt189 => ((wishbooklaw10_line.f 2 0 2 40 (-1)).bind fun bt194 => ((wishbooklaw10_delivery.f 2 5 12 4 6).bind fun bt202 => ((wishbooklaw10_delivery.f 2 20 28 3 9).bind fun bt207 => ((wishbooklaw10_delivery.f 0 30 35 1 1).bind fun bt212 => (some (y171, (([(⟨bt174.1, bt174.2.1, bt174.2.2.1, bt174.2.2.2.1, bt174.2.2.2.2⟩ : S47), (⟨bt179.1, bt179.2.1, bt179.2.2.1, bt179.2.2.2.1, bt179.2.2.2.2⟩ : S47), (⟨bt184.1, bt184.2.1, bt184.2.2.1, bt184.2.2.2.1, bt184.2.2.2.2⟩ : S47), (⟨bt189.1, bt189.2.1, bt189.2.2.1, bt189.2.2.2.1, bt189.2.2.2.2⟩ : S47), (⟨bt194.1, bt194.2.1, bt194.2.2.1, bt194.2.2.2.1, bt194.2.2.2.2⟩ : S47)] : List (S47))), (([(⟨bt202.1, (⟨bt202.2.1, bt202.2.2.1⟩ : S55), (⟨bt202.2.2.2.1, bt202.2.2.2.2⟩ : S55)⟩ : S57), (⟨bt207.1, (⟨bt207.2.1, bt207.2.2.1⟩ : S55), (⟨bt207.2.2.2.1, bt207.2.2.2.2⟩ : S55)⟩ : S57), (⟨bt212.1, (⟨bt212.2.1, bt212.2.2.1⟩ : S55), (⟨bt212.2.2.2.1, bt212.2.2.2.2⟩ : S55)⟩ : S57)] : List (S57))))))))))))) = some (r1, r2, r3) := by first | (rw [hy171]; with_reducible exact H) | (have H2_ := (Option.bind_some _ _).symm.trans H; rw [hy171]; with_reducible exact H2_) | (have H2_ := (Option.bind_some _ _).symm.trans H; with_reducible exact H2_) | with_reducible exact H | (rw [hy171]; exact H) | exact H
  have Ny171 := Aside0.mk hy171
  clear hy171
  replace H := Option.bind_eq_some_iff.mp H
  obtain ⟨⟨t174, t175, t176, t177, t178⟩, A10, H⟩ := H
  replace H : ((wishbooklaw10_line.f 0 1 4 20 0).bind fun bt179 => ((wishbooklaw10_line.f 1 2 6 30 (-1)).bind fun bt184 => ((wishbooklaw10_line.f 2 2 5 15 (-1)).bind fun bt189 => ((wishbooklaw10_line.f 2 0 2 40 (-1)).bind fun bt194 => ((wishbooklaw10_delivery.f 2 5 12 4 6).bind fun bt202 => ((wishbooklaw10_delivery.f 2 20 28 3 9).bind fun bt207 => ((wishbooklaw10_delivery.f 0 30 35 1 1).bind fun bt212 => (some (y171, (([(⟨t174, t175, t176, t177, t178⟩ : S47), (⟨bt179.1, bt179.2.1, bt179.2.2.1, bt179.2.2.2.1, bt179.2.2.2.2⟩ : S47), (⟨bt184.1, bt184.2.1, bt184.2.2.1, bt184.2.2.2.1, bt184.2.2.2.2⟩ : S47), (⟨bt189.1, bt189.2.1, bt189.2.2.1, bt189.2.2.2.1, bt189.2.2.2.2⟩ : S47), (⟨bt194.1, bt194.2.1, bt194.2.2.1, bt194.2.2.2.1, bt194.2.2.2.2⟩ : S47)] : List (S47))), (([(⟨bt202.1, (⟨bt202.2.1, bt202.2.2.1⟩ : S55), (⟨bt202.2.2.2.1, bt202.2.2.2.2⟩ : S55)⟩ : S57), (⟨bt207.1, (⟨bt207.2.1, bt207.2.2.1⟩ : S55), (⟨bt207.2.2.2.1, bt207.2.2.2.2⟩ : S55)⟩ : S57), (⟨bt212.1, (⟨bt212.2.1, bt212.2.2.1⟩ : S55), (⟨bt212.2.2.2.1, bt212.2.2.2.2⟩ : S55)⟩ : S57)] : List (S57)))))))))))) = some (r1, r2, r3) := H
  have A1 := Aside0.mk A10
  clear A10
  replace H := Option.bind_eq_some_iff.mp H
  obtain ⟨⟨t179, t180, t181, t182, t183⟩, A20, H⟩ := H
  replace H : ((wishbooklaw10_line.f 1 2 6 30 (-1)).bind fun bt184 => ((wishbooklaw10_line.f 2 2 5 15 (-1)).bind fun bt189 => ((wishbooklaw10_line.f 2 0 2 40 (-1)).bind fun bt194 => ((wishbooklaw10_delivery.f 2 5 12 4 6).bind fun bt202 => ((wishbooklaw10_delivery.f 2 20 28 3 9).bind fun bt207 => ((wishbooklaw10_delivery.f 0 30 35 1 1).bind fun bt212 => (some (y171, (([(⟨t174, t175, t176, t177, t178⟩ : S47), (⟨t179, t180, t181, t182, t183⟩ : S47), (⟨bt184.1, bt184.2.1, bt184.2.2.1, bt184.2.2.2.1, bt184.2.2.2.2⟩ : S47), (⟨bt189.1, bt189.2.1, bt189.2.2.1, bt189.2.2.2.1, bt189.2.2.2.2⟩ : S47), (⟨bt194.1, bt194.2.1, bt194.2.2.1, bt194.2.2.2.1, bt194.2.2.2.2⟩ : S47)] : List (S47))), (([(⟨bt202.1, (⟨bt202.2.1, bt202.2.2.1⟩ : S55), (⟨bt202.2.2.2.1, bt202.2.2.2.2⟩ : S55)⟩ : S57), (⟨bt207.1, (⟨bt207.2.1, bt207.2.2.1⟩ : S55), (⟨bt207.2.2.2.1, bt207.2.2.2.2⟩ : S55)⟩ : S57), (⟨bt212.1, (⟨bt212.2.1, bt212.2.2.1⟩ : S55), (⟨bt212.2.2.2.1, bt212.2.2.2.2⟩ : S55)⟩ : S57)] : List (S57))))))))))) = some (r1, r2, r3) := H
  have A2 := Aside0.mk A20
  clear A20
  replace H := Option.bind_eq_some_iff.mp H
  obtain ⟨⟨t184, t185, t186, t187, t188⟩, A30, H⟩ := H
  replace H : ((wishbooklaw10_line.f 2 2 5 15 (-1)).bind fun bt189 => ((wishbooklaw10_line.f 2 0 2 40 (-1)).bind fun bt194 => ((wishbooklaw10_delivery.f 2 5 12 4 6).bind fun bt202 => ((wishbooklaw10_delivery.f 2 20 28 3 9).bind fun bt207 => ((wishbooklaw10_delivery.f 0 30 35 1 1).bind fun bt212 => (some (y171, (([(⟨t174, t175, t176, t177, t178⟩ : S47), (⟨t179, t180, t181, t182, t183⟩ : S47), (⟨t184, t185, t186, t187, t188⟩ : S47), (⟨bt189.1, bt189.2.1, bt189.2.2.1, bt189.2.2.2.1, bt189.2.2.2.2⟩ : S47), (⟨bt194.1, bt194.2.1, bt194.2.2.1, bt194.2.2.2.1, bt194.2.2.2.2⟩ : S47)] : List (S47))), (([(⟨bt202.1, (⟨bt202.2.1, bt202.2.2.1⟩ : S55), (⟨bt202.2.2.2.1, bt202.2.2.2.2⟩ : S55)⟩ : S57), (⟨bt207.1, (⟨bt207.2.1, bt207.2.2.1⟩ : S55), (⟨bt207.2.2.2.1, bt207.2.2.2.2⟩ : S55)⟩ : S57), (⟨bt212.1, (⟨bt212.2.1, bt212.2.2.1⟩ : S55), (⟨bt212.2.2.2.1, bt212.2.2.2.2⟩ : S55)⟩ : S57)] : List (S57)))))))))) = some (r1, r2, r3) := H
  have A3 := Aside0.mk A30
  clear A30
  replace H := Option.bind_eq_some_iff.mp H
  obtain ⟨⟨t189, t190, t191, t192, t193⟩, A40, H⟩ := H
  replace H : ((wishbooklaw10_line.f 2 0 2 40 (-1)).bind fun bt194 => ((wishbooklaw10_delivery.f 2 5 12 4 6).bind fun bt202 => ((wishbooklaw10_delivery.f 2 20 28 3 9).bind fun bt207 => ((wishbooklaw10_delivery.f 0 30 35 1 1).bind fun bt212 => (some (y171, (([(⟨t174, t175, t176, t177, t178⟩ : S47), (⟨t179, t180, t181, t182, t183⟩ : S47), (⟨t184, t185, t186, t187, t188⟩ : S47), (⟨t189, t190, t191, t192, t193⟩ : S47), (⟨bt194.1, bt194.2.1, bt194.2.2.1, bt194.2.2.2.1, bt194.2.2.2.2⟩ : S47)] : List (S47))), (([(⟨bt202.1, (⟨bt202.2.1, bt202.2.2.1⟩ : S55), (⟨bt202.2.2.2.1, bt202.2.2.2.2⟩ : S55)⟩ : S57), (⟨bt207.1, (⟨bt207.2.1, bt207.2.2.1⟩ : S55), (⟨bt207.2.2.2.1, bt207.2.2.2.2⟩ : S55)⟩ : S57), (⟨bt212.1, (⟨bt212.2.1, bt212.2.2.1⟩ : S55), (⟨bt212.2.2.2.1, bt212.2.2.2.2⟩ : S55)⟩ : S57)] : List (S57))))))))) = some (r1, r2, r3) := H
  have A4 := Aside0.mk A40
  clear A40
  replace H := Option.bind_eq_some_iff.mp H
  obtain ⟨⟨t194, t195, t196, t197, t198⟩, A50, H⟩ := H
  replace H : ((wishbooklaw10_delivery.f 2 5 12 4 6).bind fun bt202 => ((wishbooklaw10_delivery.f 2 20 28 3 9).bind fun bt207 => ((wishbooklaw10_delivery.f 0 30 35 1 1).bind fun bt212 => (some (y171, (([(⟨t174, t175, t176, t177, t178⟩ : S47), (⟨t179, t180, t181, t182, t183⟩ : S47), (⟨t184, t185, t186, t187, t188⟩ : S47), (⟨t189, t190, t191, t192, t193⟩ : S47), (⟨t194, t195, t196, t197, t198⟩ : S47)] : List (S47))), (([(⟨bt202.1, (⟨bt202.2.1, bt202.2.2.1⟩ : S55), (⟨bt202.2.2.2.1, bt202.2.2.2.2⟩ : S55)⟩ : S57), (⟨bt207.1, (⟨bt207.2.1, bt207.2.2.1⟩ : S55), (⟨bt207.2.2.2.1, bt207.2.2.2.2⟩ : S55)⟩ : S57), (⟨bt212.1, (⟨bt212.2.1, bt212.2.2.1⟩ : S55), (⟨bt212.2.2.2.1, bt212.2.2.2.2⟩ : S55)⟩ : S57)] : List (S57)))))))) = some (r1, r2, r3) := H
  have A5 := Aside0.mk A50
  clear A50
  obtain ⟨y199, hy199⟩ : ∃ y_ : List (S47), y_ = (([(⟨t174, t175, t176, t177, t178⟩ : S47), (⟨t179, t180, t181, t182, t183⟩ : S47), (⟨t184, t185, t186, t187, t188⟩ : S47), (⟨t189, t190, t191, t192, t193⟩ : S47), (⟨t194, t195, t196, t197, t198⟩ : S47)] : List (S47))) := ⟨_, rfl⟩
  replace H : ((wishbooklaw10_delivery.f 2 5 12 4 6).bind fun bt202 => ((wishbooklaw10_delivery.f 2 20 28 3 9).bind fun bt207 => ((wishbooklaw10_delivery.f 0 30 35 1 1).bind fun bt212 => (some (y171, y199, (([(⟨bt202.1, (⟨bt202.2.1, bt202.2.2.1⟩ : S55), (⟨bt202.2.2.2.1, bt202.2.2.2.2⟩ : S55)⟩ : S57), (⟨bt207.1, (⟨bt207.2.1, bt207.2.2.1⟩ : S55), (⟨bt207.2.2.2.1, bt207.2.2.2.2⟩ : S55)⟩ : S57), (⟨bt212.1, (⟨bt212.2.1, bt212.2.2.1⟩ : S55), (⟨bt212.2.2.2.1, bt212.2.2.2.2⟩ : S55)⟩ : S57)] : List (S57)))))))) = some (r1, r2, r3) := by first | (rw [hy199]; with_reducible exact H) | (have H2_ := (Option.bind_some _ _).symm.trans H; rw [hy199]; with_reducible exact H2_) | (have H2_ := (Option.bind_some _ _).symm.trans H; with_reducible exact H2_) | with_reducible exact H | (rw [hy199]; exact H) | exact H
  have Ny199 := Aside0.mk hy199
  clear hy199
  replace H := Option.bind_eq_some_iff.mp H
  obtain ⟨⟨t202, t203, t204, t205, t206⟩, A60, H⟩ := H
  replace H : ((wishbooklaw10_delivery.f 2 20 28 3 9).bind fun bt207 => ((wishbooklaw10_delivery.f 0 30 35 1 1).bind fun bt212 => (some (y171, y199, (([(⟨t202, (⟨t203, t204⟩ : S55), (⟨t205, t206⟩ : S55)⟩ : S57), (⟨bt207.1, (⟨bt207.2.1, bt207.2.2.1⟩ : S55), (⟨bt207.2.2.2.1, bt207.2.2.2.2⟩ : S55)⟩ : S57), (⟨bt212.1, (⟨bt212.2.1, bt212.2.2.1⟩ : S55), (⟨bt212.2.2.2.1, bt212.2.2.2.2⟩ : S55)⟩ : S57)] : List (S57))))))) = some (r1, r2, r3) := H
  have A6 := Aside0.mk A60
  clear A60
  replace H := Option.bind_eq_some_iff.mp H
  obtain ⟨⟨t207, t208, t209, t210, t211⟩, A70, H⟩ := H
  replace H : ((wishbooklaw10_delivery.f 0 30 35 1 1).bind fun bt212 => (some (y171, y199, (([(⟨t202, (⟨t203, t204⟩ : S55), (⟨t205, t206⟩ : S55)⟩ : S57), (⟨t207, (⟨t208, t209⟩ : S55), (⟨t210, t211⟩ : S55)⟩ : S57), (⟨bt212.1, (⟨bt212.2.1, bt212.2.2.1⟩ : S55), (⟨bt212.2.2.2.1, bt212.2.2.2.2⟩ : S55)⟩ : S57)] : List (S57)))))) = some (r1, r2, r3) := H
  have A7 := Aside0.mk A70
  clear A70
  replace H := Option.bind_eq_some_iff.mp H
  obtain ⟨⟨t212, t213, t214, t215, t216⟩, A80, H⟩ := H
  replace H : (some (y171, y199, (([(⟨t202, (⟨t203, t204⟩ : S55), (⟨t205, t206⟩ : S55)⟩ : S57), (⟨t207, (⟨t208, t209⟩ : S55), (⟨t210, t211⟩ : S55)⟩ : S57), (⟨t212, (⟨t213, t214⟩ : S55), (⟨t215, t216⟩ : S55)⟩ : S57)] : List (S57))))) = some (r1, r2, r3) := H
  have A8 := Aside0.mk A80
  clear A80
  obtain ⟨y217, hy217⟩ : ∃ y_ : List (S57), y_ = (([(⟨t202, (⟨t203, t204⟩ : S55), (⟨t205, t206⟩ : S55)⟩ : S57), (⟨t207, (⟨t208, t209⟩ : S55), (⟨t210, t211⟩ : S55)⟩ : S57), (⟨t212, (⟨t213, t214⟩ : S55), (⟨t215, t216⟩ : S55)⟩ : S57)] : List (S57))) := ⟨_, rfl⟩
  replace H : (some (y171, y199, y217)) = some (r1, r2, r3) := by first | (rw [hy217]; with_reducible exact H) | (have H2_ := (Option.bind_some _ _).symm.trans H; rw [hy217]; with_reducible exact H2_) | (have H2_ := (Option.bind_some _ _).symm.trans H; with_reducible exact H2_) | with_reducible exact H | (rw [hy217]; exact H) | exact H
  have Ny217 := Aside0.mk hy217
  clear hy217
  simp only [Option.some.injEq, Prod.mk.injEq] at H
  obtain ⟨rfl, rfl, rfl⟩ := H
  go_enter Tryd.func43, Tryd.ntmps43
  go_wp2_with (first | ((with_reducible refine gate_dst (N := 0) rfl ?_); refine box_event ?hg (N := 0) ?hd (cs := #[.slice none 0 0, .slice none 0 0, .slice none 0 0]) (t := 26) ?hr ?_; (case hd => rfl); (case hg => rfl); (case hr => first | (go_simp; done) | (go_simp; rfl)); intro gb170 hg w9 hbox hb; have n0_ := Aside0.mk (below_step (by repeat (first | (with_reducible first | exact HB.out | apply below_alloc | apply pw_below_drewN | apply below_drew1) | exact HB.out)) hb); have n1_ := Aside0.mk (hbox); have n2_ := Aside0.mk ((by rw [hg]; exact (below_size (by repeat (first | (with_reducible first | exact HB.out | apply below_alloc | apply pw_below_drewN | apply below_drew1) | exact HB.out))) : w.heap.size ≤ gb170)); have n3_ := Aside0.mk ((by rw [hg]; exact (below_size (by repeat (first | (with_reducible first | exact HB.out | apply below_alloc | apply pw_below_drewN | apply below_drew1) | exact HB.out))) : w.heap.size ≤ gb170)); clear HB; have HB := n0_; have BK170 := n1_; have GW170 := n2_; have GE170 := n3_; clear n0_ n1_ n2_ n3_; clear hb hbox hg) | ((with_reducible refine gate_dst (N := 1) rfl ?_); refine Kd.R_lit (Kd.int .i64) _ 3 ?hg (N := 1) ?hd (xs := ([5, 2, 0] : List Int)) (inner := [.int .i64 5, .int .i64 2, .int .i64 0]) (ok := fun _ => True) (okp := fun _ => True) ?hr ?hp (fun _ hk => hk) trivial (Below.refl _ _) (Nat.le_refl _) (by simp) ?_; (case hd => rfl); (case hg => rfl); (case hr => first | (go_simp; done) | (go_simp; rfl)); (case hp => exact (Reps.one (show Kd.M (Kd.int .i64) _ _ _ 5 [.int .i64 5] from rfl) (Reps.one (show Kd.M (Kd.int .i64) _ _ _ 2 [.int .i64 2] from rfl) (Reps.one (show Kd.M (Kd.int .i64) _ _ _ 0 [.int .i64 0] from rfl) (Reps.none _ _))))); intro v172 w10 ho11 hb hg_ hnew_; clear hg_ hnew_; (first | rw [← Ny171.out] at ho11 | (simp only [Int.reduceToNat] at ho11; rw [← Ny171.out] at ho11)); have n0_ := Aside0.mk (Kd.R_lower ho11 (below_size (by repeat (first | (with_reducible first | exact HB.out | apply below_alloc | apply pw_below_drewN | apply below_drew1 | refine below_set ?_ GE170.out) | exact HB.out)))); have n1_ := Aside0.mk (blk_below (g := gb170) (o := .cells #[.slice none 0 0, .slice none 0 0, .slice none 0 0] 26 (0, 0)) (by (with_reducible repeat (first | refine blk_drewN ?_ _ | refine blk_drew ?_ | refine blk_alloc ?_ _)); exact BK170.out) hb); have n2_ := Aside0.mk (below_step (by repeat (first | (with_reducible first | exact HB.out | apply below_alloc | apply pw_below_drewN | apply below_drew1 | refine below_set ?_ GE170.out) | exact HB.out)) hb); clear BK170; clear HB; have HO173 := n0_; have BK170 := n1_; have HB := n2_; clear n0_ n1_ n2_; clear hb ho11) | ((with_reducible refine gate_callee (f := 68) rfl ?_); refine goesL_ (some 2) rfl rfl Tryd.func68 (by kernel_rfl) rfl #[.int .i64 0, .int .i64 0, .int .i64 3, .int .i64 10, .int .i64 (-1)] rfl (by (try simp only [List.map_toArray, List.map_cons, List.map_nil]); first | done | rfl | (simp only [List.length_drop, List.length_take]; rfl)) ?_; (with_reducible refine (wishbooklaw10_line.calls 0 0 3 10 (-1) t174 t175 t176 t177 t178 _ A1.out).mono ?_); rintro e w12 ⟨rfl, hb⟩; refine ⟨_, rfl, ?_⟩; have n0_ := Aside0.mk (Kd.R_below (by (with_reducible repeat (first | apply Kd.R_alloc | apply Kd.R_drewN | apply Kd.R_drew)); exact HO173.out) hb); have n1_ := Aside0.mk (blk_below (g := gb170) (o := .cells #[.slice none 0 0, .slice none 0 0, .slice none 0 0] 26 (0, 0)) (by (with_reducible repeat (first | refine blk_drewN ?_ _ | refine blk_drew ?_ | refine blk_alloc ?_ _)); exact BK170.out) hb); have n2_ := Aside0.mk (below_step (by repeat (first | (with_reducible first | exact HB.out | apply below_alloc | apply pw_below_drewN | apply below_drew1 | refine below_set ?_ GE170.out) | exact HB.out)) hb); clear HO173; clear BK170; clear HB; have HO173 := n0_; have BK170 := n1_; have HB := n2_; clear n0_ n1_ n2_; (try clear hb); (try clear hb2); (try clear hk); (try clear hi)) | ((with_reducible refine gate_callee (f := 68) rfl ?_); refine goesL_ (some 3) rfl rfl Tryd.func68 (by kernel_rfl) rfl #[.int .i64 0, .int .i64 1, .int .i64 4, .int .i64 20, .int .i64 0] rfl (by (try simp only [List.map_toArray, List.map_cons, List.map_nil]); first | done | rfl | (simp only [List.length_drop, List.length_take]; rfl)) ?_; (with_reducible refine (wishbooklaw10_line.calls 0 1 4 20 0 t179 t180 t181 t182 t183 _ A2.out).mono ?_); rintro e w13 ⟨rfl, hb⟩; refine ⟨_, rfl, ?_⟩; have n0_ := Aside0.mk (Kd.R_below (by (with_reducible repeat (first | apply Kd.R_alloc | apply Kd.R_drewN | apply Kd.R_drew)); exact HO173.out) hb); have n1_ := Aside0.mk (blk_below (g := gb170) (o := .cells #[.slice none 0 0, .slice none 0 0, .slice none 0 0] 26 (0, 0)) (by (with_reducible repeat (first | refine blk_drewN ?_ _ | refine blk_drew ?_ | refine blk_alloc ?_ _)); exact BK170.out) hb); have n2_ := Aside0.mk (below_step (by repeat (first | (with_reducible first | exact HB.out | apply below_alloc | apply pw_below_drewN | apply below_drew1 | refine below_set ?_ GE170.out) | exact HB.out)) hb); clear HO173; clear BK170; clear HB; have HO173 := n0_; have BK170 := n1_; have HB := n2_; clear n0_ n1_ n2_; (try clear hb); (try clear hb2); (try clear hk); (try clear hi)) | ((with_reducible refine gate_callee (f := 68) rfl ?_); refine goesL_ (some 4) rfl rfl Tryd.func68 (by kernel_rfl) rfl #[.int .i64 1, .int .i64 2, .int .i64 6, .int .i64 30, .int .i64 (-1)] rfl (by (try simp only [List.map_toArray, List.map_cons, List.map_nil]); first | done | rfl | (simp only [List.length_drop, List.length_take]; rfl)) ?_; (with_reducible refine (wishbooklaw10_line.calls 1 2 6 30 (-1) t184 t185 t186 t187 t188 _ A3.out).mono ?_); rintro e w14 ⟨rfl, hb⟩; refine ⟨_, rfl, ?_⟩; have n0_ := Aside0.mk (Kd.R_below (by (with_reducible repeat (first | apply Kd.R_alloc | apply Kd.R_drewN | apply Kd.R_drew)); exact HO173.out) hb); have n1_ := Aside0.mk (blk_below (g := gb170) (o := .cells #[.slice none 0 0, .slice none 0 0, .slice none 0 0] 26 (0, 0)) (by (with_reducible repeat (first | refine blk_drewN ?_ _ | refine blk_drew ?_ | refine blk_alloc ?_ _)); exact BK170.out) hb); have n2_ := Aside0.mk (below_step (by repeat (first | (with_reducible first | exact HB.out | apply below_alloc | apply pw_below_drewN | apply below_drew1 | refine below_set ?_ GE170.out) | exact HB.out)) hb); clear HO173; clear BK170; clear HB; have HO173 := n0_; have BK170 := n1_; have HB := n2_; clear n0_ n1_ n2_; (try clear hb); (try clear hb2); (try clear hk); (try clear hi)) | ((with_reducible refine gate_callee (f := 68) rfl ?_); refine goesL_ (some 5) rfl rfl Tryd.func68 (by kernel_rfl) rfl #[.int .i64 2, .int .i64 2, .int .i64 5, .int .i64 15, .int .i64 (-1)] rfl (by (try simp only [List.map_toArray, List.map_cons, List.map_nil]); first | done | rfl | (simp only [List.length_drop, List.length_take]; rfl)) ?_; (with_reducible refine (wishbooklaw10_line.calls 2 2 5 15 (-1) t189 t190 t191 t192 t193 _ A4.out).mono ?_); rintro e w15 ⟨rfl, hb⟩; refine ⟨_, rfl, ?_⟩; have n0_ := Aside0.mk (Kd.R_below (by (with_reducible repeat (first | apply Kd.R_alloc | apply Kd.R_drewN | apply Kd.R_drew)); exact HO173.out) hb); have n1_ := Aside0.mk (blk_below (g := gb170) (o := .cells #[.slice none 0 0, .slice none 0 0, .slice none 0 0] 26 (0, 0)) (by (with_reducible repeat (first | refine blk_drewN ?_ _ | refine blk_drew ?_ | refine blk_alloc ?_ _)); exact BK170.out) hb); have n2_ := Aside0.mk (below_step (by repeat (first | (with_reducible first | exact HB.out | apply below_alloc | apply pw_below_drewN | apply below_drew1 | refine below_set ?_ GE170.out) | exact HB.out)) hb); clear HO173; clear BK170; clear HB; have HO173 := n0_; have BK170 := n1_; have HB := n2_; clear n0_ n1_ n2_; (try clear hb); (try clear hb2); (try clear hk); (try clear hi)) | ((with_reducible refine gate_callee (f := 68) rfl ?_); refine goesL_ (some 6) rfl rfl Tryd.func68 (by kernel_rfl) rfl #[.int .i64 2, .int .i64 0, .int .i64 2, .int .i64 40, .int .i64 (-1)] rfl (by (try simp only [List.map_toArray, List.map_cons, List.map_nil]); first | done | rfl | (simp only [List.length_drop, List.length_take]; rfl)) ?_; (with_reducible refine (wishbooklaw10_line.calls 2 0 2 40 (-1) t194 t195 t196 t197 t198 _ A5.out).mono ?_); rintro e w16 ⟨rfl, hb⟩; refine ⟨_, rfl, ?_⟩; have n0_ := Aside0.mk (Kd.R_below (by (with_reducible repeat (first | apply Kd.R_alloc | apply Kd.R_drewN | apply Kd.R_drew)); exact HO173.out) hb); have n1_ := Aside0.mk (blk_below (g := gb170) (o := .cells #[.slice none 0 0, .slice none 0 0, .slice none 0 0] 26 (0, 0)) (by (with_reducible repeat (first | refine blk_drewN ?_ _ | refine blk_drew ?_ | refine blk_alloc ?_ _)); exact BK170.out) hb); have n2_ := Aside0.mk (below_step (by repeat (first | (with_reducible first | exact HB.out | apply below_alloc | apply pw_below_drewN | apply below_drew1 | refine below_set ?_ GE170.out) | exact HB.out)) hb); clear HO173; clear BK170; clear HB; have HO173 := n0_; have BK170 := n1_; have HB := n2_; clear n0_ n1_ n2_; (try clear hb); (try clear hb2); (try clear hk); (try clear hi)) | ((with_reducible refine gate_dst (N := 7) rfl ?_); refine Kd.R_lit k47 _ 47 ?hg (N := 7) ?hd (xs := ([(⟨t174, t175, t176, t177, t178⟩ : S47), (⟨t179, t180, t181, t182, t183⟩ : S47), (⟨t184, t185, t186, t187, t188⟩ : S47), (⟨t189, t190, t191, t192, t193⟩ : S47), (⟨t194, t195, t196, t197, t198⟩ : S47)] : List (S47))) (inner := [.int .i64 t174, .int .i64 t175, .int .i64 t176, .int .i64 t177, .int .i64 t178, .int .i64 t179, .int .i64 t180, .int .i64 t181, .int .i64 t182, .int .i64 t183, .int .i64 t184, .int .i64 t185, .int .i64 t186, .int .i64 t187, .int .i64 t188, .int .i64 t189, .int .i64 t190, .int .i64 t191, .int .i64 t192, .int .i64 t193, .int .i64 t194, .int .i64 t195, .int .i64 t196, .int .i64 t197, .int .i64 t198]) (ok := fun _ => True) (okp := fun _ => True) ?hr ?hp (fun _ hk => hk) trivial (Below.refl _ _) (Nat.le_refl _) (by simp) ?_; (case hd => rfl); (case hg => rfl); (case hr => first | (go_simp; done) | (go_simp; rfl)); (case hp => exact (Reps.c5 (show Kd.M k47 _ _ _ (⟨t174, t175, t176, t177, t178⟩ : S47) [.int .i64 t174, .int .i64 t175, .int .i64 t176, .int .i64 t177, .int .i64 t178] from (k47_mkM _ _ _ (⟨t174, t175, t176, t177, t178⟩ : S47) )) (Reps.c5 (show Kd.M k47 _ _ _ (⟨t179, t180, t181, t182, t183⟩ : S47) [.int .i64 t179, .int .i64 t180, .int .i64 t181, .int .i64 t182, .int .i64 t183] from (k47_mkM _ _ _ (⟨t179, t180, t181, t182, t183⟩ : S47) )) (Reps.c5 (show Kd.M k47 _ _ _ (⟨t184, t185, t186, t187, t188⟩ : S47) [.int .i64 t184, .int .i64 t185, .int .i64 t186, .int .i64 t187, .int .i64 t188] from (k47_mkM _ _ _ (⟨t184, t185, t186, t187, t188⟩ : S47) )) (Reps.c5 (show Kd.M k47 _ _ _ (⟨t189, t190, t191, t192, t193⟩ : S47) [.int .i64 t189, .int .i64 t190, .int .i64 t191, .int .i64 t192, .int .i64 t193] from (k47_mkM _ _ _ (⟨t189, t190, t191, t192, t193⟩ : S47) )) (Reps.c5 (show Kd.M k47 _ _ _ (⟨t194, t195, t196, t197, t198⟩ : S47) [.int .i64 t194, .int .i64 t195, .int .i64 t196, .int .i64 t197, .int .i64 t198] from (k47_mkM _ _ _ (⟨t194, t195, t196, t197, t198⟩ : S47) )) (Reps.none _ _))))))); intro v200 w17 ho18 hb hg_ hnew_; clear hg_ hnew_; (first | rw [← Ny199.out] at ho18 | (simp only [Int.reduceToNat] at ho18; rw [← Ny199.out] at ho18)); have n0_ := Aside0.mk (Kd.R_below (by (with_reducible repeat (first | apply Kd.R_alloc | apply Kd.R_drewN | apply Kd.R_drew)); exact HO173.out) hb); have n1_ := Aside0.mk (Kd.R_lower ho18 (below_size (by repeat (first | (with_reducible first | exact HB.out | apply below_alloc | apply pw_below_drewN | apply below_drew1 | refine below_set ?_ GE170.out) | exact HB.out)))); have n2_ := Aside0.mk (blk_below (g := gb170) (o := .cells #[.slice none 0 0, .slice none 0 0, .slice none 0 0] 26 (0, 0)) (by (with_reducible repeat (first | refine blk_drewN ?_ _ | refine blk_drew ?_ | refine blk_alloc ?_ _)); exact BK170.out) hb); have n3_ := Aside0.mk (below_step (by repeat (first | (with_reducible first | exact HB.out | apply below_alloc | apply pw_below_drewN | apply below_drew1 | refine below_set ?_ GE170.out) | exact HB.out)) hb); clear HO173; clear BK170; clear HB; have HO173 := n0_; have HO201 := n1_; have BK170 := n2_; have HB := n3_; clear n0_ n1_ n2_ n3_; clear hb ho18) | ((with_reducible refine gate_callee (f := 39) rfl ?_); refine goesL_ (some 8) rfl rfl Tryd.func39 (by kernel_rfl) rfl #[.int .i64 2, .int .i64 5, .int .i64 12, .int .i64 4, .int .i64 6] rfl (by (try simp only [List.map_toArray, List.map_cons, List.map_nil]); first | done | rfl | (simp only [List.length_drop, List.length_take]; rfl)) ?_; (with_reducible refine (wishbooklaw10_delivery.calls 2 5 12 4 6 t202 t203 t204 t205 t206 _ A6.out).mono ?_); rintro e w19 ⟨rfl, hb⟩; refine ⟨_, rfl, ?_⟩; have n0_ := Aside0.mk (Kd.R_below (by (with_reducible repeat (first | apply Kd.R_alloc | apply Kd.R_drewN | apply Kd.R_drew)); exact HO173.out) hb); have n1_ := Aside0.mk (Kd.R_below (by (with_reducible repeat (first | apply Kd.R_alloc | apply Kd.R_drewN | apply Kd.R_drew)); exact HO201.out) hb); have n2_ := Aside0.mk (blk_below (g := gb170) (o := .cells #[.slice none 0 0, .slice none 0 0, .slice none 0 0] 26 (0, 0)) (by (with_reducible repeat (first | refine blk_drewN ?_ _ | refine blk_drew ?_ | refine blk_alloc ?_ _)); exact BK170.out) hb); have n3_ := Aside0.mk (below_step (by repeat (first | (with_reducible first | exact HB.out | apply below_alloc | apply pw_below_drewN | apply below_drew1 | refine below_set ?_ GE170.out) | exact HB.out)) hb); clear HO173; clear HO201; clear BK170; clear HB; have HO173 := n0_; have HO201 := n1_; have BK170 := n2_; have HB := n3_; clear n0_ n1_ n2_ n3_; (try clear hb); (try clear hb2); (try clear hk); (try clear hi)) | ((with_reducible refine gate_callee (f := 39) rfl ?_); refine goesL_ (some 9) rfl rfl Tryd.func39 (by kernel_rfl) rfl #[.int .i64 2, .int .i64 20, .int .i64 28, .int .i64 3, .int .i64 9] rfl (by (try simp only [List.map_toArray, List.map_cons, List.map_nil]); first | done | rfl | (simp only [List.length_drop, List.length_take]; rfl)) ?_; (with_reducible refine (wishbooklaw10_delivery.calls 2 20 28 3 9 t207 t208 t209 t210 t211 _ A7.out).mono ?_); rintro e w20 ⟨rfl, hb⟩; refine ⟨_, rfl, ?_⟩; have n0_ := Aside0.mk (Kd.R_below (by (with_reducible repeat (first | apply Kd.R_alloc | apply Kd.R_drewN | apply Kd.R_drew)); exact HO173.out) hb); have n1_ := Aside0.mk (Kd.R_below (by (with_reducible repeat (first | apply Kd.R_alloc | apply Kd.R_drewN | apply Kd.R_drew)); exact HO201.out) hb); have n2_ := Aside0.mk (blk_below (g := gb170) (o := .cells #[.slice none 0 0, .slice none 0 0, .slice none 0 0] 26 (0, 0)) (by (with_reducible repeat (first | refine blk_drewN ?_ _ | refine blk_drew ?_ | refine blk_alloc ?_ _)); exact BK170.out) hb); have n3_ := Aside0.mk (below_step (by repeat (first | (with_reducible first | exact HB.out | apply below_alloc | apply pw_below_drewN | apply below_drew1 | refine below_set ?_ GE170.out) | exact HB.out)) hb); clear HO173; clear HO201; clear BK170; clear HB; have HO173 := n0_; have HO201 := n1_; have BK170 := n2_; have HB := n3_; clear n0_ n1_ n2_ n3_; (try clear hb); (try clear hb2); (try clear hk); (try clear hi)) | ((with_reducible refine gate_callee (f := 39) rfl ?_); refine goesL_ (some 10) rfl rfl Tryd.func39 (by kernel_rfl) rfl #[.int .i64 0, .int .i64 30, .int .i64 35, .int .i64 1, .int .i64 1] rfl (by (try simp only [List.map_toArray, List.map_cons, List.map_nil]); first | done | rfl | (simp only [List.length_drop, List.length_take]; rfl)) ?_; (with_reducible refine (wishbooklaw10_delivery.calls 0 30 35 1 1 t212 t213 t214 t215 t216 _ A8.out).mono ?_); rintro e w21 ⟨rfl, hb⟩; refine ⟨_, rfl, ?_⟩; have n0_ := Aside0.mk (Kd.R_below (by (with_reducible repeat (first | apply Kd.R_alloc | apply Kd.R_drewN | apply Kd.R_drew)); exact HO173.out) hb); have n1_ := Aside0.mk (Kd.R_below (by (with_reducible repeat (first | apply Kd.R_alloc | apply Kd.R_drewN | apply Kd.R_drew)); exact HO201.out) hb); have n2_ := Aside0.mk (blk_below (g := gb170) (o := .cells #[.slice none 0 0, .slice none 0 0, .slice none 0 0] 26 (0, 0)) (by (with_reducible repeat (first | refine blk_drewN ?_ _ | refine blk_drew ?_ | refine blk_alloc ?_ _)); exact BK170.out) hb); have n3_ := Aside0.mk (below_step (by repeat (first | (with_reducible first | exact HB.out | apply below_alloc | apply pw_below_drewN | apply below_drew1 | refine below_set ?_ GE170.out) | exact HB.out)) hb); clear HO173; clear HO201; clear BK170; clear HB; have HO173 := n0_; have HO201 := n1_; have BK170 := n2_; have HB := n3_; clear n0_ n1_ n2_ n3_; (try clear hb); (try clear hb2); (try clear hk); (try clear hi)) | ((with_reducible refine gate_dst (N := 11) rfl ?_); refine Kd.R_lit k57 _ 57 ?hg (N := 11) ?hd (xs := ([(⟨t202, (⟨t203, t204⟩ : S55), (⟨t205, t206⟩ : S55)⟩ : S57), (⟨t207, (⟨t208, t209⟩ : S55), (⟨t210, t211⟩ : S55)⟩ : S57), (⟨t212, (⟨t213, t214⟩ : S55), (⟨t215, t216⟩ : S55)⟩ : S57)] : List (S57))) (inner := [.int .i64 t202, .int .i64 t203, .int .i64 t204, .int .i64 t205, .int .i64 t206, .int .i64 t207, .int .i64 t208, .int .i64 t209, .int .i64 t210, .int .i64 t211, .int .i64 t212, .int .i64 t213, .int .i64 t214, .int .i64 t215, .int .i64 t216]) (ok := fun _ => True) (okp := fun _ => True) ?hr ?hp (fun _ hk => hk) trivial (Below.refl _ _) (Nat.le_refl _) (by simp) ?_; (case hd => rfl); (case hg => rfl); (case hr => first | (go_simp; done) | (go_simp; rfl)); (case hp => exact (Reps.c5 (show Kd.M k57 _ _ _ (⟨t202, (⟨t203, t204⟩ : S55), (⟨t205, t206⟩ : S55)⟩ : S57) [.int .i64 t202, .int .i64 t203, .int .i64 t204, .int .i64 t205, .int .i64 t206] from (k57_mkM _ _ _ (⟨t202, (⟨t203, t204⟩ : S55), (⟨t205, t206⟩ : S55)⟩ : S57) )) (Reps.c5 (show Kd.M k57 _ _ _ (⟨t207, (⟨t208, t209⟩ : S55), (⟨t210, t211⟩ : S55)⟩ : S57) [.int .i64 t207, .int .i64 t208, .int .i64 t209, .int .i64 t210, .int .i64 t211] from (k57_mkM _ _ _ (⟨t207, (⟨t208, t209⟩ : S55), (⟨t210, t211⟩ : S55)⟩ : S57) )) (Reps.c5 (show Kd.M k57 _ _ _ (⟨t212, (⟨t213, t214⟩ : S55), (⟨t215, t216⟩ : S55)⟩ : S57) [.int .i64 t212, .int .i64 t213, .int .i64 t214, .int .i64 t215, .int .i64 t216] from (k57_mkM _ _ _ (⟨t212, (⟨t213, t214⟩ : S55), (⟨t215, t216⟩ : S55)⟩ : S57) )) (Reps.none _ _))))); intro v218 w22 ho23 hb hg_ hnew_; clear hg_ hnew_; (first | rw [← Ny217.out] at ho23 | (simp only [Int.reduceToNat] at ho23; rw [← Ny217.out] at ho23)); have n0_ := Aside0.mk (Kd.R_below (by (with_reducible repeat (first | apply Kd.R_alloc | apply Kd.R_drewN | apply Kd.R_drew)); exact HO173.out) hb); have n1_ := Aside0.mk (Kd.R_below (by (with_reducible repeat (first | apply Kd.R_alloc | apply Kd.R_drewN | apply Kd.R_drew)); exact HO201.out) hb); have n2_ := Aside0.mk (Kd.R_lower ho23 (below_size (by repeat (first | (with_reducible first | exact HB.out | apply below_alloc | apply pw_below_drewN | apply below_drew1 | refine below_set ?_ GE170.out) | exact HB.out)))); have n3_ := Aside0.mk (blk_below (g := gb170) (o := .cells #[.slice none 0 0, .slice none 0 0, .slice none 0 0] 26 (0, 0)) (by (with_reducible repeat (first | refine blk_drewN ?_ _ | refine blk_drew ?_ | refine blk_alloc ?_ _)); exact BK170.out) hb); have n4_ := Aside0.mk (below_step (by repeat (first | (with_reducible first | exact HB.out | apply below_alloc | apply pw_below_drewN | apply below_drew1 | refine below_set ?_ GE170.out) | exact HB.out)) hb); clear HO173; clear HO201; clear BK170; clear HB; have HO173 := n0_; have HO201 := n1_; have HO219 := n2_; have BK170 := n3_; have HB := n4_; clear n0_ n1_ n2_ n3_ n4_; clear hb ho23; obtain ⟨Ao24, co24, eo24⟩ := Kd.R_slice HO219.out; subst eo24; obtain ⟨Ao25, co25, eo25⟩ := Kd.R_slice HO201.out; subst eo25; obtain ⟨Ao26, co26, eo26⟩ := Kd.R_slice HO173.out; subst eo26; have hcz27_0 : w22.cell? ⟨gb170, 0, none⟩ = some (.slice none 0 0) := (blk_cell BK170.out 0).trans rfl; have hcz27_1 : w22.cell? ⟨gb170, 1, none⟩ = some (.slice none 0 0) := (blk_cell BK170.out 1).trans rfl; have hcz27_2 : w22.cell? ⟨gb170, 2, none⟩ = some (.slice none 0 0) := (blk_cell BK170.out 2).trans rfl; have hfz27_0 := blk_frozen BK170.out 0; have hfz27_1 := blk_frozen BK170.out 1; have hfz27_2 := blk_frozen BK170.out 2))
  refine bodyPost_ret (results_cell_row rfl _ _ gb170 26 #[.slice Ao26 y171.length co26, .slice Ao25 y199.length co25, .slice Ao24 y217.length co24] (0, 0) _ rfl (by (with_reducible repeat (first | refine blk_drewN ?_ _ | refine blk_drew ?_ | refine blk_alloc ?_ _)); refine blk_put (cs := #[.slice Ao26 y171.length co26, .slice Ao25 y199.length co25, .slice none 0 0]) ?_ 2 _ rfl; (with_reducible repeat (first | refine blk_drewN ?_ _ | refine blk_drew ?_ | refine blk_alloc ?_ _)); refine blk_put (cs := #[.slice Ao26 y171.length co26, .slice none 0 0, .slice none 0 0]) ?_ 1 _ rfl; (with_reducible repeat (first | refine blk_drewN ?_ _ | refine blk_drew ?_ | refine blk_alloc ?_ _)); refine blk_put (cs := #[.slice none 0 0, .slice none 0 0, .slice none 0 0]) ?_ 0 _ rfl; (with_reducible repeat (first | refine blk_drewN ?_ _ | refine blk_drew ?_ | refine blk_alloc ?_ _)); exact BK170.out) Tryd.underlying26 rfl (by kernel_rfl)) rfl ?_
  exact ⟨_, _, _, by first | rfl | (simp [errW_none, errW_some] <;> rfl) | (simp [*, errW_none, errW_some] <;> rfl), by (with_reducible repeat (first | apply Kd.R_alloc | apply Kd.R_drewN | apply Kd.R_drew)); exact Kd.R_mono (Kd.R_far (p := ⟨gb170, 2, none⟩) (Kd.R_far (p := ⟨gb170, 1, none⟩) (Kd.R_far (p := ⟨gb170, 0, none⟩) (Kd.R_types HO173.out BK170.out (by decide)) (fun _ hk => hk.2) (.slice Ao26 y171.length co26)) (fun _ hk => hk.2) (.slice Ao25 y199.length co25)) (fun _ hk => hk.2) (.slice Ao24 y217.length co24)) (fun _ hk => trivial), by (with_reducible repeat (first | apply Kd.R_alloc | apply Kd.R_drewN | apply Kd.R_drew)); exact Kd.R_mono (Kd.R_far (p := ⟨gb170, 2, none⟩) (Kd.R_far (p := ⟨gb170, 1, none⟩) (Kd.R_far (p := ⟨gb170, 0, none⟩) (Kd.R_types HO201.out BK170.out (by decide)) (fun _ hk => hk.2) (.slice Ao26 y171.length co26)) (fun _ hk => hk.2) (.slice Ao25 y199.length co25)) (fun _ hk => hk.2) (.slice Ao24 y217.length co24)) (fun _ hk => trivial), by (with_reducible repeat (first | apply Kd.R_alloc | apply Kd.R_drewN | apply Kd.R_drew)); exact Kd.R_mono (Kd.R_far (p := ⟨gb170, 2, none⟩) (Kd.R_far (p := ⟨gb170, 1, none⟩) (Kd.R_far (p := ⟨gb170, 0, none⟩) (Kd.R_types HO219.out BK170.out (by decide)) (fun _ hk => hk.2) (.slice Ao26 y171.length co26)) (fun _ hk => hk.2) (.slice Ao25 y199.length co25)) (fun _ hk => hk.2) (.slice Ao24 y217.length co24)) (fun _ hk => trivial), by repeat (first | (with_reducible first | exact HB.out | apply below_alloc | apply pw_below_drewN | apply below_drew1 | refine below_set ?_ GE170.out) | exact HB.out)⟩
def wishbooklaw10_then.f  : Option ((List (S59))) := some (([(⟨6, 5⟩ : S59), (⟨20, 5⟩ : S59), (⟨30, 1⟩ : S59)] : List (S59)))
set_option maxHeartbeats 8000000 in
set_option maxRecDepth 100000 in
theorem wishbooklaw10_then.calls  (r : List (S59)) (w : World) (h : wishbooklaw10_then.f  = some r) :
    Calls Tryd.prog 45 #[] w fun e w' => ∃ v0_ : Value, e = .returned (v0_) ∧ Kd.R k59 59 w' w.heap.size (fun _ => True) v0_ r ∧ Below w.heap.size w w' := by
  have hu59 := Tryd.underlying59
  have HB := Aside0.mk (Below.refl w.heap.size w)
  have H : (some (([(⟨6, 5⟩ : S59), (⟨20, 5⟩ : S59), (⟨30, 1⟩ : S59)] : List (S59)))) = some r := h
  clear h
  obtain ⟨y220, hy220⟩ : ∃ y_ : List (S59), y_ = (([(⟨6, 5⟩ : S59), (⟨20, 5⟩ : S59), (⟨30, 1⟩ : S59)] : List (S59))) := ⟨_, rfl⟩
  replace H : (some y220) = some r := by first | (rw [hy220]; with_reducible exact H) | (have H2_ := (Option.bind_some _ _).symm.trans H; rw [hy220]; with_reducible exact H2_) | (have H2_ := (Option.bind_some _ _).symm.trans H; with_reducible exact H2_) | with_reducible exact H | (rw [hy220]; exact H) | exact H
  have Ny220 := Aside0.mk hy220
  clear hy220
  obtain rfl := Option.some.inj H
  go_enter Tryd.func45, Tryd.ntmps45
  go_wp2_with (first | ((with_reducible refine gate_dst (N := 4) rfl ?_); refine Kd.R_lit k59 _ 59 ?hg (N := 4) ?hd (xs := ([(⟨6, 5⟩ : S59), (⟨20, 5⟩ : S59), (⟨30, 1⟩ : S59)] : List (S59))) (inner := [.int .i64 6, .int .i64 5, .int .i64 20, .int .i64 5, .int .i64 30, .int .i64 1]) (ok := fun _ => True) (okp := fun _ => True) ?hr ?hp (fun _ hk => hk) trivial (Below.refl _ _) (Nat.le_refl _) (by simp) ?_; (case hd => rfl); (case hg => rfl); (case hr => first | (go_simp; done) | (go_simp; rfl)); (case hp => exact (Reps.c2 (show Kd.M k59 _ _ _ (⟨6, 5⟩ : S59) [.int .i64 6, .int .i64 5] from (k59_mkM _ _ _ (⟨6, 5⟩ : S59) )) (Reps.c2 (show Kd.M k59 _ _ _ (⟨20, 5⟩ : S59) [.int .i64 20, .int .i64 5] from (k59_mkM _ _ _ (⟨20, 5⟩ : S59) )) (Reps.c2 (show Kd.M k59 _ _ _ (⟨30, 1⟩ : S59) [.int .i64 30, .int .i64 1] from (k59_mkM _ _ _ (⟨30, 1⟩ : S59) )) (Reps.none _ _))))); intro v221 w1 ho2 hb hg_ hnew_; clear hg_ hnew_; (first | rw [← Ny220.out] at ho2 | (simp only [Int.reduceToNat] at ho2; rw [← Ny220.out] at ho2)); have n0_ := Aside0.mk (Kd.R_lower ho2 (below_size (by repeat (first | (with_reducible first | exact HB.out | apply below_alloc | apply pw_below_drewN | apply below_drew1) | exact HB.out)))); have n1_ := Aside0.mk (below_step (by repeat (first | (with_reducible first | exact HB.out | apply below_alloc | apply pw_below_drewN | apply below_drew1) | exact HB.out)) hb); clear HB; have HO222 := n0_; have HB := n1_; clear n0_ n1_; clear hb ho2))
  go_ret
  exact ⟨_, by first | rfl | (simp [errW_none, errW_some] <;> rfl) | (simp [*, errW_none, errW_some] <;> rfl), by (with_reducible repeat (first | apply Kd.R_alloc | apply Kd.R_drewN | apply Kd.R_drew)); exact HO222.out, by repeat (first | (with_reducible first | exact HB.out | apply below_alloc | apply pw_below_drewN | apply below_drew1) | exact HB.out)⟩
def wishbooklaw10_shares.f  : Option ((List (S49))) := some (([(⟨3, 0, 0, 0⟩ : S49), (⟨2, 2, 0, 0⟩ : S49), (⟨0, 0, 6, 0⟩ : S49), (⟨0, 0, 1, 4⟩ : S49), (⟨0, 0, 1, 1⟩ : S49)] : List (S49)))
set_option maxHeartbeats 8000000 in
set_option maxRecDepth 100000 in
theorem wishbooklaw10_shares.calls  (r : List (S49)) (w : World) (h : wishbooklaw10_shares.f  = some r) :
    Calls Tryd.prog 49 #[] w fun e w' => ∃ v0_ : Value, e = .returned (v0_) ∧ Kd.R k49 49 w' w.heap.size (fun _ => True) v0_ r ∧ Below w.heap.size w w' := by
  have hu49 := Tryd.underlying49
  have HB := Aside0.mk (Below.refl w.heap.size w)
  have H : (some (([(⟨3, 0, 0, 0⟩ : S49), (⟨2, 2, 0, 0⟩ : S49), (⟨0, 0, 6, 0⟩ : S49), (⟨0, 0, 1, 4⟩ : S49), (⟨0, 0, 1, 1⟩ : S49)] : List (S49)))) = some r := h
  clear h
  obtain ⟨y223, hy223⟩ : ∃ y_ : List (S49), y_ = (([(⟨3, 0, 0, 0⟩ : S49), (⟨2, 2, 0, 0⟩ : S49), (⟨0, 0, 6, 0⟩ : S49), (⟨0, 0, 1, 4⟩ : S49), (⟨0, 0, 1, 1⟩ : S49)] : List (S49))) := ⟨_, rfl⟩
  replace H : (some y223) = some r := by first | (rw [hy223]; with_reducible exact H) | (have H2_ := (Option.bind_some _ _).symm.trans H; rw [hy223]; with_reducible exact H2_) | (have H2_ := (Option.bind_some _ _).symm.trans H; with_reducible exact H2_) | with_reducible exact H | (rw [hy223]; exact H) | exact H
  have Ny223 := Aside0.mk hy223
  clear hy223
  obtain rfl := Option.some.inj H
  go_enter Tryd.func49, Tryd.ntmps49
  go_wp2_with (first | ((with_reducible refine gate_dst (N := 6) rfl ?_); refine Kd.R_lit k49 _ 49 ?hg (N := 6) ?hd (xs := ([(⟨3, 0, 0, 0⟩ : S49), (⟨2, 2, 0, 0⟩ : S49), (⟨0, 0, 6, 0⟩ : S49), (⟨0, 0, 1, 4⟩ : S49), (⟨0, 0, 1, 1⟩ : S49)] : List (S49))) (inner := [.int .i64 3, .int .i64 0, .int .i64 0, .int .i64 0, .int .i64 2, .int .i64 2, .int .i64 0, .int .i64 0, .int .i64 0, .int .i64 0, .int .i64 6, .int .i64 0, .int .i64 0, .int .i64 0, .int .i64 1, .int .i64 4, .int .i64 0, .int .i64 0, .int .i64 1, .int .i64 1]) (ok := fun _ => True) (okp := fun _ => True) ?hr ?hp (fun _ hk => hk) trivial (Below.refl _ _) (Nat.le_refl _) (by simp) ?_; (case hd => rfl); (case hg => rfl); (case hr => first | (go_simp; done) | (go_simp; rfl)); (case hp => exact (Reps.c4 (show Kd.M k49 _ _ _ (⟨3, 0, 0, 0⟩ : S49) [.int .i64 3, .int .i64 0, .int .i64 0, .int .i64 0] from (k49_mkM _ _ _ (⟨3, 0, 0, 0⟩ : S49) )) (Reps.c4 (show Kd.M k49 _ _ _ (⟨2, 2, 0, 0⟩ : S49) [.int .i64 2, .int .i64 2, .int .i64 0, .int .i64 0] from (k49_mkM _ _ _ (⟨2, 2, 0, 0⟩ : S49) )) (Reps.c4 (show Kd.M k49 _ _ _ (⟨0, 0, 6, 0⟩ : S49) [.int .i64 0, .int .i64 0, .int .i64 6, .int .i64 0] from (k49_mkM _ _ _ (⟨0, 0, 6, 0⟩ : S49) )) (Reps.c4 (show Kd.M k49 _ _ _ (⟨0, 0, 1, 4⟩ : S49) [.int .i64 0, .int .i64 0, .int .i64 1, .int .i64 4] from (k49_mkM _ _ _ (⟨0, 0, 1, 4⟩ : S49) )) (Reps.c4 (show Kd.M k49 _ _ _ (⟨0, 0, 1, 1⟩ : S49) [.int .i64 0, .int .i64 0, .int .i64 1, .int .i64 1] from (k49_mkM _ _ _ (⟨0, 0, 1, 1⟩ : S49) )) (Reps.none _ _))))))); intro v224 w1 ho2 hb hg_ hnew_; clear hg_ hnew_; (first | rw [← Ny223.out] at ho2 | (simp only [Int.reduceToNat] at ho2; rw [← Ny223.out] at ho2)); have n0_ := Aside0.mk (Kd.R_lower ho2 (below_size (by repeat (first | (with_reducible first | exact HB.out | apply below_alloc | apply pw_below_drewN | apply below_drew1) | exact HB.out)))); have n1_ := Aside0.mk (below_step (by repeat (first | (with_reducible first | exact HB.out | apply below_alloc | apply pw_below_drewN | apply below_drew1) | exact HB.out)) hb); clear HB; have HO225 := n0_; have HB := n1_; clear n0_ n1_; clear hb ho2))
  go_ret
  exact ⟨_, by first | rfl | (simp [errW_none, errW_some] <;> rfl) | (simp [*, errW_none, errW_some] <;> rfl), by (with_reducible repeat (first | apply Kd.R_alloc | apply Kd.R_drewN | apply Kd.R_drew)); exact HO225.out, by repeat (first | (with_reducible first | exact HB.out | apply below_alloc | apply pw_below_drewN | apply below_drew1) | exact HB.out)⟩
end Go.Proofs.YtegpepnmnlockaaDoor.PL
namespace Go.Proofs.YtegpepnmnlockaaDoor.PL
open Go.RowKit Go.Proofs.YtegpepnmnlockaaDoorW.PrintWords Go.Proofs.YtegpepnmnlockaaDoorW.PrintLast Go.Proofs.YtegpepnmnlockaaDoorW.PrintMore
set_option linter.unusedVariables false
set_option linter.unusedSimpArgs false
/-- Is a line's turn no later than another's? -/
def turnLe (l1 : List S47) (i line : Nat) : Prop := (rd_T47 l1 i).f3 < (rd_T47 l1 line).f3 ∨ ((rd_T47 l1 i).f3 = (rd_T47 l1 line).f3 ∧ i ≤ line)
instance (l1 : List S47) (i line : Nat) : Decidable (turnLe l1 i line) := by unfold turnLe; infer_instance
/-- What is listed of a good for the first n lines whose turn is no later than a line's. -/
def needG (l1 : List S47) (sh : List S49) (line : Nat) : Nat → Int
  | 0 => 0
  | i + 1 => needG l1 sh line i + if (rd_T47 l1 i).f1 = (rd_T47 l1 line).f1 ∧ turnLe l1 i line then (rd_T49 sh i).f2 else 0
theorem sumTo_perm (f : Nat → Int) {xs ys : List Nat} (h : xs.Perm ys) : sumTo f xs = sumTo f ys := by
  induction h with
  | nil => rfl
  | cons x _ ih => rw [sumTo, sumTo, ih]
  | swap x y l => simp only [sumTo]; omega
  | trans _ _ ih1 ih2 => exact ih1.trans ih2
theorem cfL_not (l1 : List S47) (line i : Nat) : (!decide (cfL l1 line i < 0)) = decide (turnLe l1 i line) := by
  by_cases h : turnLe l1 i line
  · rw [decide_eq_true h, decide_eq_false (fun hh => by
      rw [cfL_lt] at hh
      unfold turnLe at h
      omega)]
    rfl
  · rw [decide_eq_false h, decide_eq_true ((cfL_lt l1 line i).2 (by unfold turnLe at h; omega))]
    rfl
theorem sum_need (l1 : List S47) (sh : List S49) (line : Nat) (hs : ∀ i : Nat, 0 ≤ (rd_T49 sh i).f2) : ∀ n, sumTo (fun i => (rd_T49 sh (i : Nat)).f2) ((candF l1 sh (rd_T47 l1 line).f1 n).filter fun i => decide (turnLe l1 i line)) = needG l1 sh line n
  | 0 => rfl
  | n + 1 => by
    have ih := sum_need l1 sh line hs n
    have h0 := hs n
    rw [candF_succ, List.filter_append, sumTo_append, ih, needG]
    congr 1
    by_cases c1 : (rd_T47 l1 n).f1 = (rd_T47 l1 line).f1
    · by_cases c2 : 0 < (rd_T49 sh n).f2
      · rw [if_pos (by simp [c1, c2])]
        by_cases c3 : turnLe l1 n line
        · rw [if_pos ⟨c1, c3⟩]
          simp [c3, sumTo]
        · rw [if_neg (fun h => c3 h.2)]
          simp [c3, sumTo]
      · rw [if_neg (by simp [c1]; omega)]
        have e : (rd_T49 sh n).f2 = 0 := by omega
        rw [e]
        simp [sumTo]
    · rw [if_neg (by simp [c1]), if_neg (fun h => c1 h.1)]
      rfl
theorem need_plain (l1 : List S47) (sh : List S49) (line : Nat) (hs : ∀ i : Nat, 0 ≤ (rd_T49 sh i).f2) (hline : line < l1.length) (hls : 0 < (rd_T49 sh line).f2) : needF l1 sh line = needG l1 sh line l1.length := by
  have hmem : line ∈ candF l1 sh (rd_T47 l1 line).f1 l1.length := candF_mem.2 ⟨hline, rfl, hls⟩
  have hperm : (waitL l1 sh (rd_T47 l1 line).f1).Perm (candF l1 sh (rd_T47 l1 line).f1 l1.length) := List.mergeSort_perm _ _
  have hnd : (waitL l1 sh (rd_T47 l1 line).f1).Nodup := hperm.nodup_iff.2 (by unfold candF; exact List.Pairwise.filter _ List.nodup_range)
  have hsort : (waitL l1 sh (rd_T47 l1 line).f1).Pairwise fun x y => (!decide (cfL l1 y x < 0)) = true := by
    unfold waitL
    refine List.pairwise_mergeSort (fun a b c h1 h2 => ?_) (fun a b => ?_) _
    · rw [cfL_not, decide_eq_true_eq] at *
      unfold turnLe at *
      omega
    · rw [cfL_not, cfL_not, Bool.or_eq_true, decide_eq_true_eq, decide_eq_true_eq]
      unfold turnLe
      omega
  obtain ⟨pre, rest, he⟩ := List.append_of_mem (hperm.mem_iff.2 hmem)
  rw [he] at hsort hnd
  have hnp : line ∉ pre := fun h => by
    have := (List.nodup_append.1 hnd).2.2 line h line (by simp)
    exact this rfl
  unfold needF
  rw [he, needTo_prefix _ _ _ _ hnp, ← sum_need l1 sh line hs, ← sumTo_perm _ (hperm.filter _), he]
  congr 1
  rw [List.filter_append]
  have h1 : pre.filter (fun i => decide (turnLe l1 i line)) = pre := by
    rw [List.filter_eq_self]
    intro a ha
    have := (List.pairwise_append.1 hsort).2.2 a ha line (by simp)
    rwa [cfL_not] at this
  have h2 : (line :: rest).filter (fun i => decide (turnLe l1 i line)) = [line] := by
    rw [List.filter_cons, if_pos (decide_eq_true (show turnLe l1 line line from Or.inr ⟨rfl, Nat.le_refl _⟩))]
    congr 1
    rw [List.filter_eq_nil_iff]
    intro a ha hh
    have hp := (List.pairwise_cons.1 (List.pairwise_append.1 hsort).2.1).1 a ha
    rw [cfL_not] at hp
    have hq := of_decide_eq_true hp
    have hh := of_decide_eq_true hh
    have hne : a ≠ line := fun e => by
      have := (List.nodup_cons.1 (List.nodup_append.1 hnd).2.1).1
      rw [e] at ha
      exact this ha
    unfold turnLe at hq hh
    omega
  rw [h1, h2]
theorem there_plain (l1 : List S47) (l2 : List S57) (sh : List S49) (line : Nat) (l3 : List S59) (hs : ∀ i : Nat, 0 ≤ (rd_T49 sh i).f2) (hline : line < l1.length) (hls : 0 < (rd_T49 sh line).f2) :
    thereF l1 l2 sh line l3 = dayF (fun d => cameBy l2 l3 (rd_T47 l1 line).f1 d l3.length) (needG l1 sh line l1.length) 101 0 := by
  unfold thereF
  rw [need_plain l1 sh line hs hline hls]
end Go.Proofs.YtegpepnmnlockaaDoor.PL

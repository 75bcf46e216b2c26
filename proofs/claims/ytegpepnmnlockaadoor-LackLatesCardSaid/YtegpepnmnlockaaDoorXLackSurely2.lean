/- Part 2 of a proof: what the last text rests on. -/
import Derived.Test.YtegpepnmnlockaaDoorXLackSurely1
namespace Go.Proofs.YtegpepnmnlockaaDoor.PL
open Go.RowKit Go.Proofs.YtegpepnmnlockaaDoorW.PrintWords Go.Proofs.YtegpepnmnlockaaDoorW.PrintLast Go.Proofs.YtegpepnmnlockaaDoorW.PrintMore
set_option linter.unusedVariables false
set_option linter.unusedSimpArgs false
theorem below_setCells57 {B b : Nat} {a : World} (hb : B ≤ b) : ∀ (vs : List Value) (o : Nat) (w : World), Below B a w → Below B a (w.setCells b o vs)
  | [], _, _, h => h
  | v :: vs, o, w, h => below_setCells57 hb vs (o + 1) _ (h.setCell (p := ⟨b, o, none⟩) hb v)
theorem run_clear57 (w : World) (ty : TypeId) (b o c : Nat) (hc : ∀ j, j < 5 → (w.cell? ⟨b, o + j, none⟩).isSome = true) (hf : ∀ j, j < 5 → w.frozen? ⟨b, o + j, none⟩ = false) :
    (Builtin.clear_ #[24] ty #[.slice (some ⟨b, o, none⟩) 1 c]).run Tryd.prog w = .ok (.tuple #[]) (w.setCells b o (List.replicate 5 (.int .i64 0))) := by
  have hv : ∀ w, (zeroValue 57).run Tryd.prog w = .ok (.agg #[.int .i64 0, .int .i64 0, .int .i64 0, .int .i64 0, .int .i64 0]) w := fun w => by kernel_rfl
  have hzc : (Builtin.zeroCells (Value.agg #[.int .i64 0, .int .i64 0, .int .i64 0, .int .i64 0, .int .i64 0]).cells 1).toList = List.replicate 5 (.int .i64 0) := by kernel_rfl
  have hst := run_storeCells_cells (P := Tryd.prog) b o (List.replicate 5 (Value.int .i64 0)) 0 w (by simpa using hc) (by simpa using hf) (by intro v hv'; rw [List.eq_of_mem_replicate hv']; rfl)
  simp only [Nat.add_zero] at hst
  rw [← hzc] at hst
  simp [Builtin.clear_, run_underlying Tryd.underlying24, hv, hst]
  rw [hzc]
  rfl
section
variable {α : Type} {d : Kd α} {enc : α → List Value}
theorem Flat.take (F : Flat d enc) (xs : List α) (i : Nat) (h : i ≤ xs.length) : (xs.take i).flatMap enc = (xs.flatMap enc).take (i * d.sz) := by
  have e : xs.flatMap enc = (xs.take i).flatMap enc ++ (xs.drop i).flatMap enc := by rw [← List.flatMap_append, List.take_append_drop]
  rw [e, List.take_left' (by rw [F.olds, List.length_take, Nat.min_eq_left h])]
theorem Flat.drop (F : Flat d enc) (xs : List α) (i : Nat) (h : i ≤ xs.length) : (xs.drop i).flatMap enc = (xs.flatMap enc).drop (i * d.sz) := by
  have e : xs.flatMap enc = (xs.take i).flatMap enc ++ (xs.drop i).flatMap enc := by rw [← List.flatMap_append, List.take_append_drop]
  rw [e, List.drop_left' (by rw [F.olds, List.length_take, Nat.min_eq_left h])]
theorem Flat.C_of (F : Flat d enc) {w : World} {blk n : Nat} {xs : List α} (hn : xs.length = n) (hm : n ≤ 1000) (h : ∀ j u, (xs.flatMap enc)[j]? = some u → w.cell? ⟨blk, j, none⟩ = some u) : Kd.C d w (some ⟨blk, 0, none⟩) n xs := by
  subst hn
  refine F.C_mk hm fun j x hx q u hu => h _ _ ?_
  have h2 := (F.reps xs).2 _ _ hx
  have hq : q < d.sz := by rw [← F.len x]; exact (List.getElem?_eq_some_iff.1 hu).1
  rw [← h2, List.getElem?_take, if_pos hq, List.getElem?_drop] at hu
  exact hu
end
set_option maxHeartbeats 8000000 in
set_option maxRecDepth 100000 in
theorem delete62_calls (blk cap i n : Nat) (xs : List S57) (w : World) (cur : Array Value) (hn : xs.length = n) (hrow : w.heap[blk]? = some (.cells cur 57 (0, 0))) (hsz : cur.size = cap * 5) (hC : Kd.C k57 w (some ⟨blk, 0, none⟩) n xs)
    (hcap : n ≤ cap) (hm : cap ≤ 9223372036854775807) (hi : i < n) (hl : n ≤ 6) :
    Calls Tryd.prog 62 #[.slice (some ⟨blk, 0, none⟩) n cap, .int .i64 (i : Int), .int .i64 ((i : Int) + 1)] w fun e w' => e = .returned (.slice (some ⟨blk, 0, none⟩) (n - 1) cap) ∧
      Kd.C k57 w' (some ⟨blk, 0, none⟩) (n - 1) (xs.eraseIdx i) ∧ Below blk w w' := by
  have there : ∀ p, p < cap * 5 → (w.cell? ⟨blk, p, none⟩).isSome = true := fun p hp => by
    rw [blk_cell hrow, Array.getElem?_eq_getElem (by omega)]
    rfl
  have free : ∀ p, w.frozen? ⟨blk, p, none⟩ = false := fun p => blk_frozen hrow p
  have hat : ∀ j u, (xs.flatMap enc57)[j]? = some u → w.cell? ⟨blk, j, none⟩ = some u := fun j u hu => by
    have := flat57.cells hC j u hu
    rwa [Addr.add_lit, Nat.zero_add] at this
  have hfl : (xs.flatMap enc57).length = n * 5 := by rw [← hn]; exact flat57.olds xs
  obtain ⟨news, hnews⟩ : ∃ news, news = (xs.flatMap enc57).drop ((i + 1) * 5) := ⟨_, rfl⟩
  have hlen : news.length = (n - (i + 1)) * 5 := by rw [hnews, List.length_drop, hfl]; omega
  have hone : ∀ u ∈ news, u.oneCell' = true := fun u hu => by
    rw [hnews] at hu
    obtain ⟨x, -, hx⟩ := List.mem_flatMap.1 (List.mem_of_mem_drop hu)
    exact flat57.one x u hx
  obtain ⟨W1, hW1⟩ : ∃ W1, W1 = w.drew.setCells blk (0 + i * 5) news := ⟨_, rfl⟩
  obtain ⟨W2, hW2⟩ : ∃ W2, W2 = W1.setCells blk ((n - 1) * 5) (List.replicate 5 (Value.int .i64 0)) := ⟨_, rfl⟩
  have hfree1 : ∀ p, W1.frozen? ⟨blk, p, none⟩ = false := fun p => by rw [hW1, World.frozen?_setCells]; exact free p
  have hthere1 : ∀ p, p < cap * 5 → (W1.cell? ⟨blk, p, none⟩).isSome = true := fun p hp => by rw [hW1]; exact World.isSome_setCells _ _ _ _ _ (there p hp)
  have hback : Below blk w W2 := by
    rw [hW2, hW1]
    exact below_setCells57 (Nat.le_refl _) _ _ _ (below_setCells57 (Nat.le_refl _) _ _ _ (below_drew (Below.refl _ _)))
  have hres : Kd.C k57 W2 (some ⟨blk, 0, none⟩) (n - 1) (xs.eraseIdx i) := by
    refine flat57.C_of (by rw [List.length_eraseIdx, if_pos (by omega), hn]) (by omega) fun j u hu => ?_
    rw [List.eraseIdx_eq_take_drop_succ, List.flatMap_append, flat57.take _ _ (by omega), flat57.drop _ _ (by omega)] at hu
    show W2.cell? ⟨blk, j, none⟩ = some u
    have h5 : k57.sz = 5 := rfl
    rw [h5, ← hnews] at hu
    have hj : j < (n - 1) * 5 := by
      have := (List.getElem?_eq_some_iff.1 hu).1
      rw [List.length_append, List.length_take, hfl, hlen, Nat.min_eq_left (by omega)] at this
      omega
    rw [hW2, World.cell?_setCells_out _ _ _ _ _ (fun _ _ => Or.inl hj), hW1]
    by_cases hji : j < i * 5
    · rw [World.cell?_setCells_out _ _ _ _ _ (fun _ _ => Or.inl (by show j < 0 + i * 5; omega))]
      rw [List.getElem?_append_left (by rw [List.length_take, hfl]; omega), List.getElem?_take_of_lt hji] at hu
      exact hat j u hu
    · rw [List.getElem?_append_right (by rw [List.length_take, hfl]; omega), List.length_take, hfl, Nat.min_eq_left (by omega)] at hu
      obtain ⟨q, rfl⟩ : ∃ q, j = 0 + i * 5 + q := ⟨j - i * 5, by omega⟩
      rw [show 0 + i * 5 + q - i * 5 = q by omega] at hu
      have hq := List.getElem?_eq_some_iff.1 hu
      rw [World.cell?_setCells_in blk news (0 + i * 5) w.drew (fun t ht => there _ (by rw [hlen] at ht; omega)) q hq.1, hq.2]
  have hclr : ∀ ty, (Builtin.clear_ #[24] ty #[.slice (some ⟨blk, (i + (n - (i + 1))) * 5, none⟩) (n - (i + (n - (i + 1)))) (cap - (i + (n - (i + 1))))]).run Tryd.prog W1 = .ok (.tuple #[]) W2 := fun ty => by
    rw [hW2, show i + (n - (i + 1)) = n - 1 by omega, show n - (n - 1) = 1 by omega]
    exact run_clear57 W1 ty blk ((n - 1) * 5) _ (fun j hj => hthere1 _ (by omega)) (fun j hj => hfree1 _)
  obtain ⟨A, hA, hsrc⟩ : ∃ A : Addr, (if cap = i + 1 then some (⟨blk, 0, none⟩ : Addr) else some ⟨blk, (i + 1) * 5, none⟩) = some A ∧ Hid (∀ t u, news[t]? = some u → w.drew.cell? (A.add t) = some u) := by
    by_cases h : cap = i + 1
    · refine ⟨⟨blk, 0, none⟩, by simp [h], fun t u hu => ?_⟩
      have h0 : news.length = 0 := by rw [hlen]; omega
      rw [List.length_eq_zero_iff.1 h0] at hu
      simp at hu
    · refine ⟨⟨blk, (i + 1) * 5, none⟩, by simp [h], fun t u hu => ?_⟩
      rw [hnews, List.getElem?_drop] at hu
      rw [Addr.add_lit]
      exact hat _ _ hu
  have s1 := Aside0.mk hlen
  have s2 := Aside0.mk hone
  have s3 := Aside0.mk (show ∀ t, t < news.length → (w.drew.cell? ⟨blk, 0 + i * 5 + t, none⟩).isSome = true ∧ w.drew.frozen? ⟨blk, 0 + i * 5 + t, none⟩ = false from fun t ht => ⟨there _ (by rw [hlen] at ht; omega), free _⟩)
  have HW1 := Aside0.mk hW1
  have HR := Aside0.mk (And.intro hres hback)
  have hic : i ≤ cap := by omega
  have hjc : i + 1 ≤ cap := by omega
  have hnn : (i : Int) ≤ (n : Int) := by omega
  have q1 : 0 ≤ (i : Int) + 1 := by omega
  have q2 : (i : Int) + 1 ≤ (n : Int) := by omega
  have hne : ((i : Int) == (i : Int) + 1) = false := beq_eq_false_iff_ne.2 (by omega)
  clear hW1 hW2 hthere1 hfree1 hres hback hnews hlen hone hfl hat there free hrow hC hn
  go_enter Tryd.func62, Tryd.ntmps62
  go_wp2_with (fail)
  obtain ⟨i0, hi0, hz0, hz1, hz2⟩ := info_parts info57
  go_region_law (refine step_append_room rfl (.tmp 22) (.tmp 25) 24 rfl 57 i0 5 Tryd.underlying24 hi0 hz1 blk 0 i cap (by simp [Act.eval, Act.put]) A (n - (i + 1)) (cap - (i + 1)) news (by simp [Act.eval, Act.put]) s1.out hsrc.out s2.out (by omega) s3.out ?_; rw [← HW1.out])
  go_wp2
  refine bodyPost_ret (results_tmp rfl _ _ _) rfl ?_
  exact ⟨by rw [show n - 1 = i + (n - (i + 1)) by omega]; rfl, HR.out⟩
end Go.Proofs.YtegpepnmnlockaaDoor.PL
namespace Go.Proofs.YtegpepnmnlockaaDoor.PL
open Go.RowKit Go.Proofs.YtegpepnmnlockaaDoorW.PrintWords Go.Proofs.YtegpepnmnlockaaDoorW.PrintLast Go.Proofs.YtegpepnmnlockaaDoorW.PrintMore
set_option linter.unusedVariables false
set_option linter.unusedSimpArgs false
/-- The lines, of the first n, that could not be kept with what comes by F. -/
def brokF (l1 : List S47) (sh : List S49) (F : Int → Int → Int) : Nat → List Int
  | 0 => []
  | i + 1 => brokF l1 sh F i ++ (if (decide (0 < (rd_T49 sh (i : Nat)).f2) && !keptF l1 (rd_T47 l1 (i : Nat)).f1 (sh.take (i + 1)) F) = true then [(i : Int)] else [])
theorem brokF_len (l1 : List S47) (sh : List S49) (F : Int → Int → Int) : ∀ i, (brokF l1 sh F i).length ≤ i
  | 0 => Nat.le_refl _
  | i + 1 => by
    have := brokF_len l1 sh F i
    rw [brokF, List.length_append]
    split <;> simp <;> omega
theorem erase_ok {l0 : List Int} {l1 : List S47} {l2 : List S57} (hb : okB l0 l1 l2 = true) (i : Nat) : ∀ y ∈ l2.eraseIdx i, OkDel y := fun y hy =>
  okDel_of (okB_facts hb).2.1 ((okB_facts hb).2.2.2.2.2.2.2 y (List.mem_of_mem_eraseIdx hy))
def lack_Broken.f (l0 : List Int) (l1 : List S47) (l2 : List S57) (a1 : Int) : Option (List Int × Int) :=
  if Few l0 l1 l2 then (if okB l0 l1 l2 = true then (if 0 ≤ a1 ∧ a1 ≤ (l2.length : Int) - 1 then some (brokF l1 (servF l0 l1 l2).2 (comTo (l2.eraseIdx a1.toNat) (l2.length - 1)) l1.length, 0) else some ([], 101)) else some ([], 100)) else none
set_option maxHeartbeats 8000000 in
set_option maxRecDepth 100000 in
theorem lack_Broken.calls (A0 : Option Addr) (c0 : Nat) (l0 : List Int) (A1 : Option Addr) (c1 : Nat) (l1 : List S47) (A2 : Option Addr) (c2 : Nat) (l2 : List S57) (a1 : Int) (r1 : List Int) (r2 : Int) (w : World)
    (h0 : Kd.C (Kd.int .i64) w A0 l0.length l0) (hc0 : l0.length ≤ c0) (h1 : Kd.C k47 w A1 l1.length l1) (hc1 : l1.length ≤ c1) (h2 : Kd.C k57 w A2 l2.length l2) (hc2 : l2.length ≤ c2) (hfa : Fates w)
    (h : lack_Broken.f l0 l1 l2 a1 = some (r1, r2)) :
    Calls Tryd.prog 26 #[.agg #[.slice A0 l0.length c0, .slice A1 l1.length c1, .slice A2 l2.length c2], .int .i64 a1] w fun e w' => ∃ v1_ : Value, e = .returned (.tuple #[v1_, .int .i64 r2]) ∧ Kd.V (Kd.int .i64) 3 w' w.heap.size (fun k_ => w.heap.size ≤ k_) v1_ r1 ∧ Below w.heap.size w w' := by
  unfold lack_Broken.f at h
  by_cases hf : Few l0 l1 l2
  case neg => rw [if_neg hf] at h; cases h
  rw [if_pos hf] at h
  have H0 := Aside0.mk h0
  have H1 := Aside0.mk h1
  have H2 := Aside0.mk h2
  have HFA := Aside0.mk hfa
  clear h0 h1 h2 hfa
  have hu26 := Tryd.underlying26
  have hu86 := Tryd.underlying86
  have W1 := below_alloc (Below.refl w.heap.size w) (.cells #[.slice A0 l0.length c0, .slice A1 l1.length c1, .slice A2 l2.length c2] 26)
  have HW1 := Aside0.mk W1
  clear W1
  have q := cell_book w A0 A1 A2 c0 c1 c2 l0 l1 l2
  have q0 := q.1
  have q1 := q.2.1
  have q2 := q.2.2
  clear q
  have hgw : IntKind.i64.wrap ((l2.length : Int) - 1) = (l2.length : Int) - 1 := by
    have h9 : (l2.length : Int) < 9000000000000000000 := hf.2.2
    rw [IntKind.wrap_i64]; omega
  by_cases c1_ : 0 ≤ a1 ∧ a1 ≤ (l2.length : Int) - 1
  · have hw1 : lack_within.f a1 0 ((l2.length : Int) - 1) = some true := by rw [within_f, decide_eq_true c1_]
    cases hb : okB l0 l1 l2 with
    | false =>
      rw [hb] at h
      cases h
      go_enter Tryd.func26, Tryd.ntmps26
      go_upto_region 1 with (fail)
      go_region_held3 (fun W => W.cell? ⟨w.heap.size, 0, none⟩ = some (.slice A0 l0.length c0) ∧ W.cell? ⟨w.heap.size, 1, none⟩ = some (.slice A1 l1.length c1) ∧ W.cell? ⟨w.heap.size, 2, none⟩ = some (.slice A2 l2.length c2)) (go_keep)
        (first
          | (go_at_call 50; (with_reducible refine (lack_within.calls _ 0 ((l2.length : Int) - 1) true _ hw1).mono ?_); rintro e w2 ⟨rfl, ⟨nd, rfl⟩⟩)
          | (go_at_call 46; (with_reducible refine (asked_bad A0 A1 A2 c0 c1 c2 l0 l1 l2 true _ (Kd.C_below H0.out (by repeat (first | (with_reducible exact HW1.out) | apply below_drew | apply pw_below_drewN))) hc0 (Kd.C_below H1.out (by repeat (first | (with_reducible exact HW1.out) | apply below_drew | apply pw_below_drewN))) hc1 (Kd.C_below H2.out (by repeat (first | (with_reducible exact HW1.out) | apply below_drew | apply pw_below_drewN))) hc2 hf hb).mono ?_); rintro e w4 ⟨rfl, hb4⟩; have HB4 := Aside0.mk (below_step (by repeat (first | (with_reducible exact HW1.out) | apply below_drew | apply pw_below_drewN)) hb4); have q0' := pw_cell_below hb4 (a := ⟨w.heap.size, 0, none⟩) (v := .slice A0 l0.length c0) q0; have q1' := pw_cell_below hb4 (a := ⟨w.heap.size, 1, none⟩) (v := .slice A1 l1.length c1) q1; have q2' := pw_cell_below hb4 (a := ⟨w.heap.size, 2, none⟩) (v := .slice A2 l2.length c2) q2; clear hb4))
      go_wp2
      refine bodyPost_ret (results_tmp2 rfl _ _ _) rfl ?_
      exact ⟨_, rfl, Kd.V_nil _ _ _ _ _, HB4.out⟩
    | true =>
      rw [hb] at h
      rw [if_pos rfl, if_pos c1_] at h
      obtain ⟨dl, rfl⟩ := Int.eq_ofNat_of_zero_le c1_.1
      obtain ⟨sh, hsh⟩ : ∃ sh, sh = (servF l0 l1 l2).2 := ⟨_, rfl⟩
      rw [← hsh] at h
      have HSH := Aside0.mk hsh
      clear hsh
      rw [Int.toNat_natCast] at h
      obtain ⟨Fc, hFc⟩ : ∃ Fc, Fc = comTo (l2.eraseIdx dl) (l2.length - 1) := ⟨_, rfl⟩
      rw [← hFc] at h
      cases h
      go_enter Tryd.func26, Tryd.ntmps26
      go_upto_region 1 with (fail)
      go_region_held3 (fun W => W.cell? ⟨w.heap.size, 0, none⟩ = some (.slice A0 l0.length c0) ∧ W.cell? ⟨w.heap.size, 1, none⟩ = some (.slice A1 l1.length c1) ∧ W.cell? ⟨w.heap.size, 2, none⟩ = some (.slice A2 l2.length c2)) (go_keep)
        (first
          | (go_at_call 50; (with_reducible refine (lack_within.calls _ 0 ((l2.length : Int) - 1) true _ hw1).mono ?_); rintro e w2 ⟨rfl, ⟨nd, rfl⟩⟩)
          | (go_at_call 46; (with_reducible refine (asked_ok A0 A1 A2 c0 c1 c2 l0 l1 l2 true _ (Kd.C_below H0.out (by repeat (first | (with_reducible exact HW1.out) | apply below_drew | apply pw_below_drewN))) hc0 (Kd.C_below H1.out (by repeat (first | (with_reducible exact HW1.out) | apply below_drew | apply pw_below_drewN))) hc1 (Kd.C_below H2.out (by repeat (first | (with_reducible exact HW1.out) | apply below_drew | apply pw_below_drewN))) hc2 hf hb rfl (Fates.below HFA.out (by repeat (first | (with_reducible exact HW1.out) | apply below_drew | apply pw_below_drewN)))).mono ?_); rintro e w4 ⟨g, mb, n, sv, rfl, hbk⟩; have HBK := Aside0.mk (hbk.lower (by repeat (first | (with_reducible exact HW1.out) | apply below_drew | apply pw_below_drewN))); have HX4 := Aside0.mk ((hbk.below.block w.heap.size (by simp)).trans (heap_alloc_new w (.cells #[.slice A0 l0.length c0, .slice A1 l1.length c1, .slice A2 l2.length c2] 26))); have q0' := pw_cell_below hbk.below (a := ⟨w.heap.size, 0, none⟩) (v := .slice A0 l0.length c0) q0; have q1' := pw_cell_below hbk.below (a := ⟨w.heap.size, 1, none⟩) (v := .slice A1 l1.length c1) q1; have q2' := pw_cell_below hbk.below (a := ⟨w.heap.size, 2, none⟩) (v := .slice A2 l2.length c2) q2; clear hbk))
      have FF := Aside0.mk (okB_facts hb)
      have hn5 : l0.length ≤ 5 := FF.out.2.1
      have hl10 : l1.length ≤ 10 := FF.out.2.2.2.1
      have hl6 : l2.length ≤ 6 := FF.out.2.2.2.2.1
      obtain ⟨As, cs, hsv, hcs, hV⟩ := R_cut HBK.out.rows
      have hls : (servF l0 l1 l2).2.length = l1.length := (servF_len l1 l2 hn5).2
      rw [hls] at hsv hcs hV
      subst hsv
      have HCS := Aside0.mk hcs
      have HV := Aside0.mk hV
      clear hV hcs
      have HOK := Aside0.mk (servF_ok hb).2
      rw [← HSH.out] at HV HOK hls
      have HG2 := Aside0.mk (show w4.heap[g]? = some (.cells (bookCells (.slice A0 l0.length c0) (.slice A1 l1.length c1) (.slice A2 l2.length c2) (servF l0 l1 l2).1 mb (.slice As l1.length cs)) 86 (0, 0)) from HBK.out.cells)
      have HL2 := Aside0.mk HBK.out.below
      have HC9 := Aside0.mk (show Kd.C k49 w4 As l1.length sh by rw [← hls]; exact (Kd.V_reads' HV.out).2.2)
      have HM2 := Aside0.mk HBK.out.map
      have hn1000 := HBK.out.small
      have hgw0 := HBK.out.new
      clear HBK q0 q1 q2 q0' q1' q2' hgw hw1
      have PG := Aside0.mk ((blk_cell HG2.out 9).trans (show _ = some (Value.slice As l1.length cs) from rfl))
      have PX2 := Aside0.mk ((blk_cell HX4.out 2).trans (show _ = some (Value.slice A2 l2.length c2) from rfl))
      have PX1 := Aside0.mk ((blk_cell HX4.out 1).trans (show _ = some (Value.slice A1 l1.length c1) from rfl))
      have hdl : dl < l2.length := by omega
      obtain ⟨ad2, e2, d0, d1, d2, d3, d4⟩ := at_T57 (Kd.C_below H2.out HL2.out) dl (by omega) (by omega)
      clear d0 d1 d2 d3 d4
      subst e2
      have HFC := Aside0.mk hFc
      clear hFc
      have y2 := PX2.out
      go_wp2_with (fail)
      refine (clone24_calls ad2 c2 l2.length l2 w4 rfl (Kd.C_below H2.out HL2.out) (by omega) (by omega)).mono ?_
      rintro e w5 ⟨v, rfl, hR, hb5⟩
      have hC5 := (Kd.R_reads hR)
      obtain ⟨_, inner, ⟨hli, ho⟩, hri⟩ := hR
      rcases ho with ⟨_, h0⟩ | ⟨blk, cap, cur, rfl, hbk, hrow, hcp1, hcp2, hcp3, hcp4⟩
      · omega
      obtain ⟨A5, c5, hv5, hle5, hC5⟩ := hC5
      cases hv5
      unfold maxLen at hcp2
      have HD62 := Aside0.mk (delete62_calls blk cap dl l2.length l2 w5 cur rfl hrow hcp3 hC5 hcp1 hcp2 hdl hl6)
      have HBK5 := Aside0.mk hbk
      have HB5 := Aside0.mk hb5
      have HCP := Aside0.mk hcp1
      clear hC5 hb5 hri hli hcp1 hcp2 hcp3 hcp4 y2 hrow hbk hle5
      go_wp2_with (fail)
      refine HD62.out.mono ?_
      rintro e w6 ⟨rfl, hC6, hb6⟩
      have HB6 := Aside0.mk (HB5.out.trans (hb6.mono HBK5.out))
      have hel : (l2.eraseIdx dl).length = l2.length - 1 := by rw [List.length_eraseIdx, if_pos hdl]
      have hwc := with_calls g mb A0 A1 (some ad2) As l0.length c0 l1.length c1 l2.length c2 l1.length cs (servF l0 l1 l2).1 (some ⟨blk, 0, none⟩) cap (l2.eraseIdx dl) w6 (blk_below HG2.out HB6.out) (by rw [hel]; exact hC6) (by rw [hel]; exact Nat.le_trans (Nat.sub_le _ _) HCP.out) (erase_ok hb dl) (by omega)
      rw [hel, ← HFC.out] at hwc
      clear hC6 hb6 HD62 hel
      go_wp2_with (fail)
      refine hwc.mono ?_
      rintro e w7 ⟨g2, mb2, n2, rfl, hg2, hcells, hmap, hn2, hb7⟩
      have HC7 := Aside0.mk hcells
      have HM7 := Aside0.mk hmap
      have HB7 := Aside0.mk (below_step HB6.out hb7)
      clear hwc hcells hmap hb7
      have p9 := Aside0.mk (pw_cell_below HB7.out PG.out)
      have p1 := Aside0.mk (pw_cell_below HB7.out PX1.out)
      have HC97 := Aside0.mk (Kd.C_below HC9.out HB7.out)
      have HKC := Aside0.mk (show ∀ j : Nat, j < l1.length → ∀ W, Below w7.heap.size w7 W → Calls Tryd.prog 58 #[.pointer (some ⟨g2, 0, none⟩), .int .i64 (rd_T47 l1 j).f1, .slice As (j + 1) cs] W fun e w' => e = .returned (.bool (keptF l1 (rd_T47 l1 j).f1 (sh.take (j + 1)) Fc)) ∧ Below W.heap.size W w' from fun j hj W hW => by
        have hlt : (sh.take (j + 1)).length = j + 1 := by rw [List.length_take, hls]; omega
        have hln := okB_line hb hj
        have hcs := HCS.out
        unfold okLine at hln
        refine kept_calls' g2 mb2 n2 (.slice A0 l0.length c0) (.slice (some ⟨blk, 0, none⟩) (l2.length - 1) cap) (.slice As l1.length cs) A1 c1 l1 (servF l0 l1 l2).1 Fc (rd_T47 l1 j).f1 As cs (j + 1) (sh.take (j + 1)) W hlt.symm (blk_below HC7.out hW) (SpotMap.below HM7.out hW)
          (Kd.C_below (Kd.C_below H1.out (below_step HL2.out HB7.out)) hW) hc1 (Kd.C_below (Kd.C_take (by rw [hls]; exact HC97.out) (by omega)) hW) (by omega) (by omega) (by omega) (fun s hs => by have := HOK.out s (List.mem_of_mem_take hs); unfold OkShare at this; omega) (by omega))
      have y9 := p9.out
      clear hc0 hc1 hc2 hf
      go_wp2_with (fail)
      clear y9
      go_loopw [9, 40] (fun v i wr => ∃ j : Nat, j ≤ l1.length ∧ i = .int .i64 j ∧ Aside0 (Kd.R (Kd.int .i64) 3 wr w7.heap.size (fun _ => True) v (brokF l1 sh Fc j)) ∧ Aside0 (Below w7.heap.size w7 wr)) (fun _ i _ => l1.length - (intOf i).toNat)
      case atStart => exact ⟨0, by omega, rfl, ⟨Kd.R_nil _ _ _ _ _⟩, ⟨Below.refl _ _⟩⟩
      case round =>
        obtain ⟨j, hj, rfl, HO, HC⟩ := hrel
        by_cases hjl : j < l1.length
        · obtain ⟨ad1, e1, k0, k1, k2, k3, k4⟩ := at_T47 (Kd.C_below H1.out (below_step HL2.out HB7.out)) j (by omega) (by omega)
          cases e1
          obtain ⟨ads, e3, s0, s1, s2, s3⟩ := at_T49 HC97.out j (by omega) (by omega)
          cases e3
          simp only [Int.toNat_natCast] at k0 k1 k2 k3 k4 s0 s1 s2 s3
          have t0 := pw_cell_below HC.out s0
          have t1 := pw_cell_below HC.out s1
          have t2 := pw_cell_below HC.out s2
          have t3 := pw_cell_below HC.out s3
          have hok : OkShare (rd_T49 sh j) := rdmem49 HOK.out (by omega)
          obtain ⟨⟨-, -⟩, ⟨-, -⟩, ⟨o2, o2'⟩, ⟨-, -⟩⟩ := hok
          have hO1 := HO.out
          have hle := brokF_len l1 sh Fc j
          have DB := Aside0.mk (show brokF l1 sh Fc (j + 1) = brokF l1 sh Fc j ++ (if (decide (0 < (rd_T49 sh (j : Nat)).f2) && !keptF l1 (rd_T47 l1 (j : Nat)).f1 (sh.take (j + 1)) Fc) = true then [(j : Int)] else []) from rfl)
          have HCA := Aside0.mk (below_alloc HC.out (Obj.cells #[.int .i64 (rd_T49 sh j).f0, .int .i64 (rd_T49 sh j).f1, .int .i64 (rd_T49 sh j).f2, .int .i64 (rd_T49 sh j).f3] 49))
          have HOA := Aside0.mk (Kd.R_alloc hO1 (Obj.cells #[.int .i64 (rd_T49 sh j).f0, .int .i64 (rd_T49 sh j).f1, .int .i64 (rd_T49 sh j).f2, .int .i64 (rd_T49 sh j).f3] 49))
          have HXA := Aside0.mk (heap_alloc_new wr (Obj.cells #[.int .i64 (rd_T49 sh j).f0, .int .i64 (rd_T49 sh j).f1, .int .i64 (rd_T49 sh j).f2, .int .i64 (rd_T49 sh j).f3] 49))
          clear hO1
          go_upto_region 9 with (fail)
          generalize wr.alloc (Obj.cells #[.int .i64 (rd_T49 sh j).f0, .int .i64 (rd_T49 sh j).f1, .int .i64 (rd_T49 sh j).f2, .int .i64 (rd_T49 sh j).f3] 49) = W8 at HCA HOA HXA ⊢
          have z2 := (blk_cell HXA.out 2).trans (show _ = some (Value.int .i64 (rd_T49 sh j).f2) from rfl)
          clear t0 t1 t2 t3 s0 s1 s2 s3 k0 k2 k3 k4
          have m1 := pw_cell_below HCA.out k1
          have m2 := pw_cell_below HCA.out p1.out
          have m9 := pw_cell_below HCA.out p9.out
          clear k1
          by_cases d : 0 < (rd_T49 sh j).f2
          · have dA : decide (0 < (rd_T49 sh j).f2) = true := decide_eq_true d
            have HK := Aside0.mk (HKC.out j hjl)
            have i1 : (j : Int) + 1 ≤ (cs : Int) := by have := HCS.out; omega
            have i2 : 0 ≤ (j : Int) + 1 := by omega
            cases hK : keptF l1 (rd_T47 l1 (j : Nat)).f1 (sh.take (j + 1)) Fc with
            | true =>
              rw [hK] at HK DB
              rw [dA] at DB
              simp only [Bool.not_true, Bool.and_false, Bool.false_eq_true, if_false, List.append_nil] at DB
              clear hK
              have hwj : IntKind.i64.wrap ((j : Int) + 1) = (j : Int) + 1 := by rw [IntKind.wrap_i64]; omega
              have htn : ((j : Int) + 1).toNat = j + 1 := by omega
              go_region_held3 (fun W => W.cell? ⟨wr.heap.size, 2, none⟩ = some (.int .i64 (rd_T49 sh j).f2) ∧ W.cell? ⟨w.heap.size, 1, none⟩ = some (.slice (some ad1) l1.length c1) ∧ W.cell? ⟨(ad1.add (j * 5)).block, (ad1.add (j * 5)).off + 1, none⟩ = some (.int .i64 (rd_T47 l1 j).f1) ∧ W.cell? ⟨g, 9, none⟩ = some (.slice (some ads) l1.length cs)) (go_keep)
                ((go_at_call 58; (with_reducible refine (HK.out _ (by repeat (first | (with_reducible exact HCA.out) | apply below_drew | apply pw_below_drewN))).mono ?_); rintro e w8 ⟨rfl, hb8⟩; have r2 := pw_cell_below hb8 (a := ⟨wr.heap.size, 2, none⟩) (v := .int .i64 (rd_T49 sh j).f2) z2; have r1 := pw_cell_below hb8 (a := ⟨w.heap.size, 1, none⟩) (v := .slice (some ad1) l1.length c1) m2; have r3 := pw_cell_below hb8 (a := ⟨(ad1.add (j * 5)).block, (ad1.add (j * 5)).off + 1, none⟩) (v := .int .i64 (rd_T47 l1 j).f1) m1; have r9 := pw_cell_below hb8 (a := ⟨g, 9, none⟩) (v := .slice (some ads) l1.length cs) m9; have HB8 := Aside0.mk (below_step (by repeat (first | (with_reducible exact HCA.out) | apply below_drew | apply pw_below_drewN)) hb8); have HO8 := Aside0.mk (Kd.R_below (by repeat (first | (with_reducible exact HOA.out) | apply Kd.R_drew | apply Kd.R_drewN)) hb8); clear hb8))
              all_goals
                clear hwj htn
                go_wp2
                go_roundw
                case rel => exact ⟨j + 1, by omega, by go_num, by rw [DB.out]; exact HO8, HB8⟩
                case measure => simp [intOf]; omega
            | false =>
              rw [hK] at HK DB
              rw [dA] at DB
              simp only [Bool.not_false, Bool.and_true, if_true] at DB
              clear hK
              have hwj : IntKind.i64.wrap ((j : Int) + 1) = (j : Int) + 1 := by rw [IntKind.wrap_i64]; omega
              have htn : ((j : Int) + 1).toNat = j + 1 := by omega
              go_region_held3 (fun W => W.cell? ⟨wr.heap.size, 2, none⟩ = some (.int .i64 (rd_T49 sh j).f2) ∧ W.cell? ⟨w.heap.size, 1, none⟩ = some (.slice (some ad1) l1.length c1) ∧ W.cell? ⟨(ad1.add (j * 5)).block, (ad1.add (j * 5)).off + 1, none⟩ = some (.int .i64 (rd_T47 l1 j).f1) ∧ W.cell? ⟨g, 9, none⟩ = some (.slice (some ads) l1.length cs)) (go_keep)
                ((go_at_call 58; (with_reducible refine (HK.out _ (by repeat (first | (with_reducible exact HCA.out) | apply below_drew | apply pw_below_drewN))).mono ?_); rintro e w8 ⟨rfl, hb8⟩; have r2 := pw_cell_below hb8 (a := ⟨wr.heap.size, 2, none⟩) (v := .int .i64 (rd_T49 sh j).f2) z2; have r1 := pw_cell_below hb8 (a := ⟨w.heap.size, 1, none⟩) (v := .slice (some ad1) l1.length c1) m2; have r3 := pw_cell_below hb8 (a := ⟨(ad1.add (j * 5)).block, (ad1.add (j * 5)).off + 1, none⟩) (v := .int .i64 (rd_T47 l1 j).f1) m1; have r9 := pw_cell_below hb8 (a := ⟨g, 9, none⟩) (v := .slice (some ads) l1.length cs) m9; have HB8 := Aside0.mk (below_step (by repeat (first | (with_reducible exact HCA.out) | apply below_drew | apply pw_below_drewN)) hb8); have HO8 := Aside0.mk (Kd.R_below (by repeat (first | (with_reducible exact HOA.out) | apply Kd.R_drew | apply Kd.R_drewN)) hb8); clear hb8))
              all_goals
                clear hwj htn
                go_wp2_with (at_builtin; refine Kd.R_append (Kd.int .i64) (w0 := w7) w7.heap.size rfl (.tmp 66) (.tmp 68) 22 3 (.int .i64 0) 8 rfl Tryd.underlying22 info3 rfl (by decide) (by omega) _ (brokF l1 sh Fc j) (j : Int) [.int .i64 (j : Int)] (fun _ => True) (fun _ => False) rfl rfl ?aP (fun _ hk => hk.elim) ?aF ?aO ?aB ?aS ?aL ?_; (case aP => exact rfl); (case aB => exact HB8.out); (case aF => exact (fun _ _ => trivial)); (case aO => exact HO8.out); (case aS => exact below_size HB8.out); (case aL => omega); intro v1 w1 ho1 hb1 hg1 hat1; rw [← DB.out] at ho1; have HO3 := Aside0.mk ho1; have HB3 := Aside0.mk hb1; clear ho1 hb1 hg1 hat1)
                go_roundw
                case rel => exact ⟨j + 1, by omega, by go_num, HO3, HB3⟩
                case measure => simp [intOf]; omega
          · have dA : decide (0 < (rd_T49 sh j).f2) = false := decide_eq_false d
            rw [dA, Bool.false_and, if_neg (by decide), List.append_nil] at DB
            go_quiet (fail)
            go_wp2
            go_roundw
            case rel => exact ⟨j + 1, by omega, by go_num, by rw [DB.out]; exact ⟨Kd.R_drewN HOA.out _⟩, ⟨pw_below_drewN HCA.out _⟩⟩
            case measure => simp [intOf]; omega
        · obtain rfl : j = l1.length := by omega
          obtain ⟨Av, cv, rfl, hcv, hVo⟩ := R_cut (Kd.R_lower HO.out (base' := w.heap.size) (below_size (below_step HL2.out HB7.out)))
          have HVO := Aside0.mk hVo
          have i1 : ((brokF l1 sh Fc l1.length).length : Int) ≤ (cv : Int) := by omega
          clear hVo hcv
          go_wp2
          refine bodyPost_ret (results_tmp2 rfl _ _ _) rfl ?_
          exact ⟨_, rfl, HVO.out, below_step HL2.out (below_step HB7.out HC.out)⟩
  · have hw1 : lack_within.f a1 0 ((l2.length : Int) - 1) = some false := by rw [within_f, decide_eq_false c1_]
    cases hb : okB l0 l1 l2 with
    | false =>
      rw [hb] at h
      cases h
      go_enter Tryd.func26, Tryd.ntmps26
      go_upto_region 1 with (fail)
      go_region_held3 (fun W => W.cell? ⟨w.heap.size, 0, none⟩ = some (.slice A0 l0.length c0) ∧ W.cell? ⟨w.heap.size, 1, none⟩ = some (.slice A1 l1.length c1) ∧ W.cell? ⟨w.heap.size, 2, none⟩ = some (.slice A2 l2.length c2)) (go_keep)
        (first
          | (go_at_call 50; (with_reducible refine (lack_within.calls _ 0 ((l2.length : Int) - 1) false _ hw1).mono ?_); rintro e w2 ⟨rfl, ⟨nd, rfl⟩⟩)
          | (go_at_call 46; (with_reducible refine (asked_bad A0 A1 A2 c0 c1 c2 l0 l1 l2 false _ (Kd.C_below H0.out (by repeat (first | (with_reducible exact HW1.out) | apply below_drew | apply pw_below_drewN))) hc0 (Kd.C_below H1.out (by repeat (first | (with_reducible exact HW1.out) | apply below_drew | apply pw_below_drewN))) hc1 (Kd.C_below H2.out (by repeat (first | (with_reducible exact HW1.out) | apply below_drew | apply pw_below_drewN))) hc2 hf hb).mono ?_); rintro e w4 ⟨rfl, hb4⟩; have HB4 := Aside0.mk (below_step (by repeat (first | (with_reducible exact HW1.out) | apply below_drew | apply pw_below_drewN)) hb4); have q0' := pw_cell_below hb4 (a := ⟨w.heap.size, 0, none⟩) (v := .slice A0 l0.length c0) q0; have q1' := pw_cell_below hb4 (a := ⟨w.heap.size, 1, none⟩) (v := .slice A1 l1.length c1) q1; have q2' := pw_cell_below hb4 (a := ⟨w.heap.size, 2, none⟩) (v := .slice A2 l2.length c2) q2; clear hb4))
      go_wp2
      refine bodyPost_ret (results_tmp2 rfl _ _ _) rfl ?_
      exact ⟨_, rfl, Kd.V_nil _ _ _ _ _, HB4.out⟩
    | true =>
      rw [hb] at h
      rw [if_pos rfl, if_neg c1_] at h
      cases h
      go_enter Tryd.func26, Tryd.ntmps26
      go_upto_region 1 with (fail)
      go_region_held3 (fun W => W.cell? ⟨w.heap.size, 0, none⟩ = some (.slice A0 l0.length c0) ∧ W.cell? ⟨w.heap.size, 1, none⟩ = some (.slice A1 l1.length c1) ∧ W.cell? ⟨w.heap.size, 2, none⟩ = some (.slice A2 l2.length c2)) (go_keep)
        (first
          | (go_at_call 50; (with_reducible refine (lack_within.calls _ 0 ((l2.length : Int) - 1) false _ hw1).mono ?_); rintro e w2 ⟨rfl, ⟨nd, rfl⟩⟩)
          | (go_at_call 46; (with_reducible refine (asked_not A0 A1 A2 c0 c1 c2 l0 l1 l2 false _ (Kd.C_below H0.out (by repeat (first | (with_reducible exact HW1.out) | apply below_drew | apply pw_below_drewN))) hc0 (Kd.C_below H1.out (by repeat (first | (with_reducible exact HW1.out) | apply below_drew | apply pw_below_drewN))) hc1 (Kd.C_below H2.out (by repeat (first | (with_reducible exact HW1.out) | apply below_drew | apply pw_below_drewN))) hc2 hf hb rfl).mono ?_); rintro e w4 ⟨rfl, hb4⟩; have HB4 := Aside0.mk (below_step (by repeat (first | (with_reducible exact HW1.out) | apply below_drew | apply pw_below_drewN)) hb4); have q0' := pw_cell_below hb4 (a := ⟨w.heap.size, 0, none⟩) (v := .slice A0 l0.length c0) q0; have q1' := pw_cell_below hb4 (a := ⟨w.heap.size, 1, none⟩) (v := .slice A1 l1.length c1) q1; have q2' := pw_cell_below hb4 (a := ⟨w.heap.size, 2, none⟩) (v := .slice A2 l2.length c2) q2; clear hb4))
      go_wp2
      refine bodyPost_ret (results_tmp2 rfl _ _ _) rfl ?_
      exact ⟨_, rfl, Kd.V_nil _ _ _ _ _, HB4.out⟩
end Go.Proofs.YtegpepnmnlockaaDoor.PL
namespace Go.Proofs.YtegpepnmnlockaaDoor.PL
open Go.RowKit Go.Proofs.YtegpepnmnlockaaDoorW.PrintWords Go.Proofs.YtegpepnmnlockaaDoorW.PrintLast Go.Proofs.YtegpepnmnlockaaDoorW.PrintMore
attribute [local go_sem] max2_int min2_int max_two min_two max_three min_three max_four min_four
set_option linter.unusedVariables false
set_option linter.unusedSimpArgs false
/-- Block bl holds the first n numbers of a list. -/
def LeftAt (w : World) (bl n cap : Nat) (L : List Int) : Prop := ∃ cur : Array Value, w.heap[bl]? = some (.cells cur 3 (0, 0)) ∧ cur.size = cap ∧ n ≤ cap ∧ cap ≤ maxLen ∧ cur.toList.take n = nums .i64 (L.take n)
theorem LeftAt.cell {w : World} {bl n cap : Nat} {L : List Int} (h : LeftAt w bl n cap L) (hL : n ≤ L.length) {i : Nat} (hi : i < n) : w.cell? ⟨bl, i, none⟩ = some (.int .i64 (rd L i)) ∧ w.frozen? ⟨bl, i, none⟩ = false := by
  obtain ⟨cur, hb, hs, hn, hm, ht⟩ := h
  refine ⟨(blk_cell hb i).trans ?_, blk_frozen hb i⟩
  have e : cur.toList[i]? = (nums .i64 (L.take n))[i]? := by rw [← ht, List.getElem?_take, if_pos hi]
  rw [Array.getElem?_toList] at e
  rw [e]
  unfold nums rd
  rw [List.getElem?_map, List.getElem?_take, if_pos hi, Int.toNat_natCast, List.getD_eq_getElem?_getD, List.getElem?_eq_getElem (by omega)]
  rfl
theorem LeftAt.put {w : World} {bl n cap : Nat} {L : List Int} (h : LeftAt w bl n cap L) (i : Nat) (v : Int) : LeftAt (w.setCell ⟨bl, i, none⟩ (.int .i64 v)) bl n cap (L.set i v) := by
  obtain ⟨cur, hb, hs, hn, hm, ht⟩ := h
  refine ⟨_, blk_put hb i _ rfl, by simp [hs], hn, hm, ?_⟩
  rw [Array.toList_setIfInBounds, List.take_set, ht, List.take_set]
  simp [nums]
theorem LeftAt.at {w w' : World} {bl n cap : Nat} {L : List Int} (h : LeftAt w bl n cap L) (e : w'.heap[bl]? = w.heap[bl]?) : LeftAt w' bl n cap L := by
  obtain ⟨cur, hb, h2⟩ := h
  exact ⟨cur, e.trans hb, h2⟩
theorem LeftAt.lt {w : World} {bl n cap : Nat} {L : List Int} (h : LeftAt w bl n cap L) : bl < w.heap.size := by
  obtain ⟨cur, hb, h2⟩ := h
  exact blk_lt hb
theorem LeftAt.below {w w' : World} {bl n cap : Nat} {L : List Int} (h : LeftAt w bl n cap L) (hb : Below w.heap.size w w') : LeftAt w' bl n cap L := h.at (hb.block _ h.lt)
theorem LeftAt.R {w : World} {base bl n cap : Nat} {L : List Int} (h : LeftAt w bl n cap L) (hL : n ≤ L.length) (hb : base ≤ bl) (ok : Nat → Prop) (hok : ok bl) : Kd.R (Kd.int .i64) 3 w base ok (.slice (some ⟨bl, 0, none⟩) n cap) (L.take n) := by
  obtain ⟨cur, hb', hs, hn, hm, ht⟩ := h
  have hl : (L.take n).length = n := by rw [List.length_take]; omega
  refine flatI.R (v := .slice (some ⟨bl, 0, none⟩) n cap) ?_ ok (fun k hk => by simp [Value.ownBlock] at hk; subst hk; exact hok)
  rw [hl]
  have e : (L.take n).flatMap (fun x => [Value.int .i64 x]) = nums .i64 (L.take n) := by
    unfold nums
    rw [List.map_eq_flatMap]
  refine ⟨by rw [flatI.olds, hl], Or.inr ⟨bl, cap, cur, rfl, hb, hb', hn, hm, by rw [hs]; exact (Nat.mul_one _).symm, ?_⟩⟩
  rw [e, ← ht]
  exact congrArg (fun m => cur.toList.take m) (Nat.mul_one n)
end Go.Proofs.YtegpepnmnlockaaDoor.PL
namespace Go.Proofs.YtegpepnmnlockaaDoor.PL
open Go.RowKit Go.Proofs.YtegpepnmnlockaaDoorW.PrintWords Go.Proofs.YtegpepnmnlockaaDoorW.PrintLast Go.Proofs.YtegpepnmnlockaaDoorW.PrintMore
attribute [local go_sem] max2_int min2_int max_two min_two max_three min_three max_four min_four   -- for this text's walks alone
set_option linter.unusedVariables false
set_option linter.unusedSimpArgs false
theorem eqA49 (d : Nat) (w : World) (x0 y0 : Int) (x1 y1 : Int) (x2 y2 : Int) (x3 y3 : Int) :
    (Op.equalIn (d + 2) 49 (.agg #[.int .i64 x0, .int .i64 x1, .int .i64 x2, .int .i64 x3]) (.agg #[.int .i64 y0, .int .i64 y1, .int .i64 y2, .int .i64 y3])).run Tryd.prog w = .ok (x0 == y0 && (x1 == y1 && (x2 == y2 && (x3 == y3)))) w := by
  refine eqA_of Tryd.underlying49 (by kernel_rfl) ?_
  refine eqf_cons (by rfl) (by go_simp; rfl) (by go_simp; rfl) (by go_simp) ?_
  refine eqf_cons (by rfl) (by go_simp; rfl) (by go_simp; rfl) (by go_simp) ?_
  refine eqf_cons (by rfl) (by go_simp; rfl) (by go_simp; rfl) (by go_simp) ?_
  exact eqf_last (by rfl) (by go_simp; rfl) (by go_simp; rfl) (by go_simp)
end Go.Proofs.YtegpepnmnlockaaDoor.PL
namespace Go.Proofs.YtegpepnmnlockaaDoor.PL
open Go.RowKit Go.Proofs.YtegpepnmnlockaaDoorW.PrintWords Go.Proofs.YtegpepnmnlockaaDoorW.PrintLast Go.Proofs.YtegpepnmnlockaaDoorW.PrintMore
set_option linter.unusedVariables false
set_option linter.unusedSimpArgs false
/-- What the program's Check says. -/
def lack_Check.f (l0 : List Int) (l1 : List S47) (l2 : List S57) : Option Int := if Few l0 l1 l2 then some (chkV (okB l0 l1 l2)) else none
theorem lack_Check.calls (A0 : Option Addr) (c0 : Nat) (l0 : List Int) (A1 : Option Addr) (c1 : Nat) (l1 : List S47) (A2 : Option Addr) (c2 : Nat) (l2 : List S57) (r : Int) (w : World)
    (h0 : Kd.C (Kd.int .i64) w A0 l0.length l0) (hc0 : l0.length ≤ c0) (h1 : Kd.C k47 w A1 l1.length l1) (hc1 : l1.length ≤ c1) (h2 : Kd.C k57 w A2 l2.length l2) (hc2 : l2.length ≤ c2) (h : lack_Check.f l0 l1 l2 = some r) :
    Calls Tryd.prog 44 #[.agg #[.slice A0 l0.length c0, .slice A1 l1.length c1, .slice A2 l2.length c2]] w fun e w' => e = .returned (.int .i64 r) ∧ Below w.heap.size w w' := by
  unfold lack_Check.f at h
  by_cases hf : Few l0 l1 l2
  · rw [if_pos hf] at h
    cases h
    exact (Check_calls A0 A1 A2 c0 c1 c2 l0 l1 l2 w h0 hc0 h1 hc1 h2 hc2 hf)
  · rw [if_neg hf] at h
    cases h
end Go.Proofs.YtegpepnmnlockaaDoor.PL
namespace Go.Proofs.YtegpepnmnlockaaDoor.PL
open Go.RowKit Go.Proofs.YtegpepnmnlockaaDoorW.PrintWords Go.Proofs.YtegpepnmnlockaaDoorW.PrintLast Go.Proofs.YtegpepnmnlockaaDoorW.PrintMore
attribute [local go_sem] max2_int min2_int max_two min_two max_three min_three max_four min_four   -- for this text's walks alone
set_option linter.unusedVariables false
set_option linter.unusedSimpArgs false
attribute [local go_sem high] eqA49
def wishbookref00_Match.l0 : Nat → List Int → List Int → Bool → Int → Option (Bool)
  | 0, _, _, _, _ => none
  | k + 1, x0, x1, x5, x6 => if x5 = true then (if x6 < (x0.length : Int) then (if 0 ≤ x6 then (if x6 < (x1.length : Int) then (wishbookref00_Match.l0 k x0 x1 ((rd x0 x6) == (rd x1 x6)) (wrap64 (x6 + 1))) else (none)) else (none)) else (some x5)) else (some x5)
def wishbookref00_Match.f (k : Nat) (l0 : List Int) (l1 : List Int) : Option (Bool) := wishbookref00_Match.l0 k l0 l1 ((l0.length : Int) == (l1.length : Int)) 0
theorem wishbookref00_Match.mono_l : ∀ k, (∀ y0 y1 y2 y3, LeO (wishbookref00_Match.l0 k y0 y1 y2 y3) (wishbookref00_Match.l0 (k + 1) y0 y1 y2 y3))
  | 0 => fun _ _ _ _ r h => by simp [wishbookref00_Match.l0] at h
  | k + 1 => by
    have ih0 := wishbookref00_Match.mono_l k
    · intro y0 y1 y2 y3
      unfold wishbookref00_Match.l0
      repeat' first
      | (with_reducible exact ih0 _ _ _ _)
      | (with_reducible exact LeO.refl _)
      | (with_reducible exact LeO.none _)
      | (with_reducible refine LeO.ite ?_ ?_)
      | (with_reducible refine LeO.bind ?_ (fun _ => ?_))
      | exact ih0 _ _ _ _
      | exact LeO.none _
      | refine LeO.ite ?_ ?_
      | refine LeO.bind ?_ (fun _ => ?_)
theorem wishbookref00_Match.mono : ∀ a0 a1 k, LeO (wishbookref00_Match.f k a0 a1) (wishbookref00_Match.f (k + 1) a0 a1) := by
  intro a0 a1 k
  have ih0 := wishbookref00_Match.mono_l k
  unfold wishbookref00_Match.f
  repeat' first
      | (with_reducible exact ih0 _ _ _ _)
      | (with_reducible exact LeO.refl _)
      | (with_reducible exact LeO.none _)
      | (with_reducible refine LeO.ite ?_ ?_)
      | (with_reducible refine LeO.bind ?_ (fun _ => ?_))
      | exact ih0 _ _ _ _
      | exact LeO.none _
      | refine LeO.ite ?_ ?_
      | refine LeO.bind ?_ (fun _ => ?_)
set_option maxHeartbeats 8000000 in
set_option maxRecDepth 100000 in
theorem wishbookref00_Match.calls (k : Nat) (A0 : Option Addr) (c0 : Nat) (l0 : List Int) (A1 : Option Addr) (c1 : Nat) (l1 : List Int) (r : Bool) (w : World) (hr0 : Kd.C (Kd.int .i64) w A0 l0.length l0) (hc0 : l0.length ≤ c0) (hr1 : Kd.C (Kd.int .i64) w A1 l1.length l1) (hc1 : l1.length ≤ c1) (h : wishbookref00_Match.f k l0 l1 = some r) :
    Calls Tryd.prog 16 #[.slice A0 l0.length c0, .slice A1 l1.length c1] w fun e w' => e = .returned (.bool r) ∧ Drawn0 w w' := by
  have HR0 := Aside0.mk hr0
  have HC0 := Aside0.mk hc0
  clear hr0 hc0
  have HR1 := Aside0.mk hr1
  have HC1 := Aside0.mk hc1
  clear hr1 hc1
  have H : (wishbookref00_Match.l0 k l0 l1 ((l0.length : Int) == (l1.length : Int)) 0) = some r := h
  clear h
  have H' := Aside0.mk H
  clear H
  go_enter Tryd.func16, Tryd.ntmps16
  go_wp2
  repeat (go_quiet (fail); try go_wp2)
  go_loopg [5, 6] k (fun kq v5 v6 w' => ∃ (x5_1 : Bool) (x6_1 : Int), v5 = .bool x5_1 ∧ v6 = .int .i64 x6_1 ∧ Aside0 (wishbookref00_Match.l0 kq l0 l1 x5_1 x6_1 = some r) ∧ Aside0 (kq ≤ k) ∧ Drawn0 w w')
  case atStart => exact ⟨(((l0.length : Int) == (l1.length : Int))), (0), (by first | rfl | (simp; done) | (simp [*]; done)), (by first | rfl | (simp; done) | (simp [*]; done)), H', ⟨Nat.le_refl _⟩, by repeat (first | exact Drawn0.refl _ | apply Drawn0.step)⟩
  case round =>
    clear H'
    try clear c1
    try clear p2
    obtain ⟨x5_1, x6_1, rfl, rfl, HA, HK1, ⟨m1, rfl⟩⟩ := hrel
    cases gk with
    | zero => exact absurd HA.out (by simp [wishbookref00_Match.l0])
    | succ k1 =>
      have H := HA.out
      clear HA
      simp only [wishbookref00_Match.l0] at H
      by_cases c3 : x5_1 = true
      · subst c3
        have H1 : (if x6_1 < (l0.length : Int) then (if 0 ≤ x6_1 then (if x6_1 < (l1.length : Int) then (wishbookref00_Match.l0 k1 l0 l1 ((rd l0 x6_1) == (rd l1 x6_1)) (wrap64 (x6_1 + 1))) else (none)) else (none)) else (some true)) = some r := by rw [if_pos rfl] at H; exact H
        clear H
        have H := H1
        clear H1
        by_cases c4 : x6_1 < (l0.length : Int)
        · rw [if_pos c4] at H
          have c4b0 : decide (x6_1 < (l0.length : Int)) = true := decide_eq_true c4
          clear c4
          by_cases c5 : 0 ≤ x6_1
          · rw [if_pos c5] at H
            have c5b0 : decide (0 ≤ x6_1) = true := decide_eq_true c5
            clear c5
            by_cases c6 : x6_1 < (l1.length : Int)
            · rw [if_pos c6] at H
              have c6b0 : decide (x6_1 < (l1.length : Int)) = true := decide_eq_true c6
              clear c6
              have H' := Aside0.mk H
              clear H
              have p145 : 0 ≤ (x6_1 : Int) := of_decide_eq_true (by first | (with_reducible assumption) | assumption)
              have q145 : x6_1 < (l0.length : Int) := of_decide_eq_true (by first | (with_reducible assumption) | assumption)
              obtain ⟨ad145, e145, hx145_0⟩ := Kd.at_int HR0.out x6_1 p145 q145
              cases e145
              replace p145 := eq_true p145
              replace q145 := eq_true q145
              have p146 : 0 ≤ (x6_1 : Int) := of_decide_eq_true (by first | (with_reducible assumption) | assumption)
              have q146 : x6_1 < (l1.length : Int) := of_decide_eq_true (by first | (with_reducible assumption) | assumption)
              obtain ⟨ad146, e146, hx146_0⟩ := Kd.at_int HR1.out x6_1 p146 q146
              cases e146
              replace p146 := eq_true p146
              replace q146 := eq_true q146
              go_wp2
              repeat (go_quiet (fail); try go_wp2)
              go_roundg k1
              case measure => have := HK1.out; omega
              case rel => exact ⟨(((rd l0 x6_1) == (rd l1 x6_1))), (wrap64 (x6_1 + 1)), (by first | rfl | (simp; done) | (simp [*]; done)), (by first | rfl | (simp; done) | (simp [*]; done)), H', ⟨by have := HK1.out; omega⟩, by repeat (first | exact Drawn0.refl _ | apply Drawn0.step)⟩
            · rw [if_neg c6] at H
              exact absurd H (by simp)
          · rw [if_neg c5] at H
            exact absurd H (by simp)
        · rw [if_neg c4] at H
          have c4b0 : decide (x6_1 < (l0.length : Int)) = false := decide_eq_false c4
          clear c4
          obtain rfl := Option.some.inj H
          go_wp2
          repeat (go_quiet (fail); try go_wp2)
          go_ret
          exact ⟨by first | rfl | (simp; done) | (simp [*]; done), by repeat (first | exact Drawn0.refl _ | apply Drawn0.step)⟩
      · replace c3 := Bool.eq_false_iff.mpr c3
        subst c3
        have H1 : (some false) = some r := by rw [if_neg (show ¬ (false = true) by decide)] at H; exact H
        clear H
        have H := H1
        clear H1
        obtain rfl := Option.some.inj H
        go_wp2
        repeat (go_quiet (fail); try go_wp2)
        go_ret
        exact ⟨by first | rfl | (simp; done) | (simp [*]; done), by repeat (first | exact Drawn0.refl _ | apply Drawn0.step)⟩
def wishbookref10_SameShares.l0 : Nat → List (S49) → List (S49) → Bool → Int → Option (Bool)
  | 0, _, _, _, _ => none
  | k + 1, x0, x1, x5, x6 => if x5 = true then (if x6 < (x0.length : Int) then (if 0 ≤ x6 then (if x6 < (x1.length : Int) then (wishbookref10_SameShares.l0 k x0 x1 (((rd_T49 x0 x6).f0) == ((rd_T49 x1 x6).f0) && (((rd_T49 x0 x6).f1) == ((rd_T49 x1 x6).f1) && (((rd_T49 x0 x6).f2) == ((rd_T49 x1 x6).f2) && (((rd_T49 x0 x6).f3) == ((rd_T49 x1 x6).f3))))) (wrap64 (x6 + 1))) else (none)) else (none)) else (some x5)) else (some x5)
def wishbookref10_SameShares.f (k : Nat) (l0 : List (S49)) (l1 : List (S49)) : Option (Bool) := wishbookref10_SameShares.l0 k l0 l1 ((l0.length : Int) == (l1.length : Int)) 0
theorem wishbookref10_SameShares.mono_l : ∀ k, (∀ y0 y1 y2 y3, LeO (wishbookref10_SameShares.l0 k y0 y1 y2 y3) (wishbookref10_SameShares.l0 (k + 1) y0 y1 y2 y3))
  | 0 => fun _ _ _ _ r h => by simp [wishbookref10_SameShares.l0] at h
  | k + 1 => by
    have ih0 := wishbookref10_SameShares.mono_l k
    · intro y0 y1 y2 y3
      unfold wishbookref10_SameShares.l0
      repeat' first
      | (with_reducible exact ih0 _ _ _ _)
      | (with_reducible exact LeO.refl _)
      | (with_reducible exact LeO.none _)
      | (with_reducible refine LeO.ite ?_ ?_)
      | (with_reducible refine LeO.bind ?_ (fun _ => ?_))
      | exact ih0 _ _ _ _
      | exact LeO.none _
      | refine LeO.ite ?_ ?_
      | refine LeO.bind ?_ (fun _ => ?_)
theorem wishbookref10_SameShares.mono : ∀ a0 a1 k, LeO (wishbookref10_SameShares.f k a0 a1) (wishbookref10_SameShares.f (k + 1) a0 a1) := by
  intro a0 a1 k
  have ih0 := wishbookref10_SameShares.mono_l k
  unfold wishbookref10_SameShares.f
  repeat' first
      | (with_reducible exact ih0 _ _ _ _)
      | (with_reducible exact LeO.refl _)
      | (with_reducible exact LeO.none _)
      | (with_reducible refine LeO.ite ?_ ?_)
      | (with_reducible refine LeO.bind ?_ (fun _ => ?_))
      | exact ih0 _ _ _ _
      | exact LeO.none _
      | refine LeO.ite ?_ ?_
      | refine LeO.bind ?_ (fun _ => ?_)
set_option maxHeartbeats 8000000 in
set_option maxRecDepth 100000 in
theorem wishbookref10_SameShares.calls (k : Nat) (A0 : Option Addr) (c0 : Nat) (l0 : List (S49)) (A1 : Option Addr) (c1 : Nat) (l1 : List (S49)) (r : Bool) (w : World) (hr0 : Kd.C k49 w A0 l0.length l0) (hc0 : l0.length ≤ c0) (hr1 : Kd.C k49 w A1 l1.length l1) (hc1 : l1.length ≤ c1) (h : wishbookref10_SameShares.f k l0 l1 = some r) :
    Calls Tryd.prog 37 #[.slice A0 l0.length c0, .slice A1 l1.length c1] w fun e w' => e = .returned (.bool r) ∧ Drawn0 w w' := by
  have hu49 := Tryd.underlying49
  have HR0 := Aside0.mk hr0
  have HC0 := Aside0.mk hc0
  clear hr0 hc0
  have HR1 := Aside0.mk hr1
  have HC1 := Aside0.mk hc1
  clear hr1 hc1
  have H : (wishbookref10_SameShares.l0 k l0 l1 ((l0.length : Int) == (l1.length : Int)) 0) = some r := h
  clear h
  have H' := Aside0.mk H
  clear H
  go_enter Tryd.func37, Tryd.ntmps37
  go_wp2
  repeat (go_quiet (fail); try go_wp2)
  go_loopg [5, 6] k (fun kq v5 v6 w' => ∃ (x5_1 : Bool) (x6_1 : Int), v5 = .bool x5_1 ∧ v6 = .int .i64 x6_1 ∧ Aside0 (wishbookref10_SameShares.l0 kq l0 l1 x5_1 x6_1 = some r) ∧ Aside0 (kq ≤ k) ∧ Drawn0 w w')
  case atStart => exact ⟨(((l0.length : Int) == (l1.length : Int))), (0), (by first | rfl | (simp; done) | (simp [*]; done)), (by first | rfl | (simp; done) | (simp [*]; done)), H', ⟨Nat.le_refl _⟩, by repeat (first | exact Drawn0.refl _ | apply Drawn0.step)⟩
  case round =>
    clear H'
    try clear c1
    try clear p2
    obtain ⟨x5_1, x6_1, rfl, rfl, HA, HK1, ⟨m1, rfl⟩⟩ := hrel
    cases gk with
    | zero => exact absurd HA.out (by simp [wishbookref10_SameShares.l0])
    | succ k1 =>
      have H := HA.out
      clear HA
      simp only [wishbookref10_SameShares.l0] at H
      by_cases c3 : x5_1 = true
      · subst c3
        have H1 : (if x6_1 < (l0.length : Int) then (if 0 ≤ x6_1 then (if x6_1 < (l1.length : Int) then (wishbookref10_SameShares.l0 k1 l0 l1 (((rd_T49 l0 x6_1).f0) == ((rd_T49 l1 x6_1).f0) && (((rd_T49 l0 x6_1).f1) == ((rd_T49 l1 x6_1).f1) && (((rd_T49 l0 x6_1).f2) == ((rd_T49 l1 x6_1).f2) && (((rd_T49 l0 x6_1).f3) == ((rd_T49 l1 x6_1).f3))))) (wrap64 (x6_1 + 1))) else (none)) else (none)) else (some true)) = some r := by rw [if_pos rfl] at H; exact H
        clear H
        have H := H1
        clear H1
        by_cases c4 : x6_1 < (l0.length : Int)
        · rw [if_pos c4] at H
          have c4b0 : decide (x6_1 < (l0.length : Int)) = true := decide_eq_true c4
          clear c4
          by_cases c5 : 0 ≤ x6_1
          · rw [if_pos c5] at H
            have c5b0 : decide (0 ≤ x6_1) = true := decide_eq_true c5
            clear c5
            by_cases c6 : x6_1 < (l1.length : Int)
            · rw [if_pos c6] at H
              have c6b0 : decide (x6_1 < (l1.length : Int)) = true := decide_eq_true c6
              clear c6
              have H' := Aside0.mk H
              clear H
              have p161 : 0 ≤ (x6_1 : Int) := of_decide_eq_true (by first | (with_reducible assumption) | assumption)
              have q161 : x6_1 < (l0.length : Int) := of_decide_eq_true (by first | (with_reducible assumption) | assumption)
              obtain ⟨ad161, e161, hx161_0, hx161_1, hx161_2, hx161_3⟩ := at_T49 HR0.out x6_1 p161 q161
              cases e161
              replace p161 := eq_true p161
              replace q161 := eq_true q161
              have p162 : 0 ≤ (x6_1 : Int) := of_decide_eq_true (by first | (with_reducible assumption) | assumption)
              have q162 : x6_1 < (l1.length : Int) := of_decide_eq_true (by first | (with_reducible assumption) | assumption)
              obtain ⟨ad162, e162, hx162_0, hx162_1, hx162_2, hx162_3⟩ := at_T49 HR1.out x6_1 p162 q162
              cases e162
              replace p162 := eq_true p162
              replace q162 := eq_true q162
              go_wp2
              repeat (go_quiet (fail); try go_wp2)
              go_roundg k1
              case measure => have := HK1.out; omega
              case rel => exact ⟨((((rd_T49 l0 x6_1).f0) == ((rd_T49 l1 x6_1).f0) && (((rd_T49 l0 x6_1).f1) == ((rd_T49 l1 x6_1).f1) && (((rd_T49 l0 x6_1).f2) == ((rd_T49 l1 x6_1).f2) && (((rd_T49 l0 x6_1).f3) == ((rd_T49 l1 x6_1).f3)))))), (wrap64 (x6_1 + 1)), (by first | rfl | (simp; done) | (simp [*]; done)), (by first | rfl | (simp; done) | (simp [*]; done)), H', ⟨by have := HK1.out; omega⟩, by repeat (first | exact Drawn0.refl _ | apply Drawn0.step)⟩
            · rw [if_neg c6] at H
              exact absurd H (by simp)
          · rw [if_neg c5] at H
            exact absurd H (by simp)
        · rw [if_neg c4] at H
          have c4b0 : decide (x6_1 < (l0.length : Int)) = false := decide_eq_false c4
          clear c4
          obtain rfl := Option.some.inj H
          go_wp2
          repeat (go_quiet (fail); try go_wp2)
          go_ret
          exact ⟨by first | rfl | (simp; done) | (simp [*]; done), by repeat (first | exact Drawn0.refl _ | apply Drawn0.step)⟩
      · replace c3 := Bool.eq_false_iff.mpr c3
        subst c3
        have H1 : (some false) = some r := by rw [if_neg (show ¬ (false = true) by decide)] at H; exact H
        clear H
        have H := H1
        clear H1
        obtain rfl := Option.some.inj H
        go_wp2
        repeat (go_quiet (fail); try go_wp2)
        go_ret
        exact ⟨by first | rfl | (simp; done) | (simp [*]; done), by repeat (first | exact Drawn0.refl _ | apply Drawn0.step)⟩
def wishbookref00_To.f (a0 : Int) (a1 : Int) : Option (Int × Int) := some (a0, a1)
set_option maxHeartbeats 8000000 in
set_option maxRecDepth 100000 in
theorem wishbookref00_To.calls (a0 : Int) (a1 : Int) (r1 : Int) (r2 : Int) (w : World) (h : wishbookref00_To.f a0 a1 = some (r1, r2)) :
    Calls Tryd.prog 40 #[.int .i64 a0, .int .i64 a1] w fun e w' => e = .returned (.agg #[.int .i64 r1, .int .i64 r2]) ∧ Below w.heap.size w w' := by
  have hu55 := Tryd.underlying55
  have HB := Aside0.mk (Below.refl w.heap.size w)
  have H : (some (a0, a1)) = some (r1, r2) := h
  clear h
  simp only [Option.some.injEq, Prod.mk.injEq] at H
  obtain ⟨rfl, rfl⟩ := H
  go_enter Tryd.func40, Tryd.ntmps40
  go_wp2_with (first | ((with_reducible refine gate_dst (N := 4) rfl ?_); refine box_event ?hg (N := 4) ?hd (cs := #[.int .i64 0, .int .i64 0]) (t := 55) ?hr ?_; (case hd => rfl); (case hg => rfl); (case hr => first | (go_simp; done) | (go_simp; rfl)); intro gb163 hg w3 hbox hb; have n0_ := Aside0.mk (below_step (by repeat (first | (with_reducible first | exact HB.out | apply below_alloc | apply pw_below_drewN | apply below_drew1) | exact HB.out)) hb); have n1_ := Aside0.mk (hbox); have n2_ := Aside0.mk ((by rw [hg]; exact (below_size (by repeat (first | (with_reducible first | exact HB.out | apply below_alloc | apply pw_below_drewN | apply below_drew1) | exact HB.out))) : w.heap.size ≤ gb163)); have n3_ := Aside0.mk ((by rw [hg]; exact (below_size (by repeat (first | (with_reducible first | exact HB.out | apply below_alloc | apply pw_below_drewN | apply below_drew1) | exact HB.out))) : w.heap.size ≤ gb163)); clear HB; have HB := n0_; have BK163 := n1_; have GW163 := n2_; have GE163 := n3_; clear n0_ n1_ n2_ n3_; clear hb hbox hg; have hcz4_0 : w3.cell? ⟨gb163, 0, none⟩ = some (.int .i64 0) := (blk_cell BK163.out 0).trans rfl; have hcz4_1 : w3.cell? ⟨gb163, 1, none⟩ = some (.int .i64 0) := (blk_cell BK163.out 1).trans rfl; have hfz4_0 := blk_frozen BK163.out 0; have hfz4_1 := blk_frozen BK163.out 1))
  refine bodyPost_ret (results_cell_row rfl _ _ gb163 55 #[.int .i64 a0, .int .i64 a1] (0, 0) _ rfl (by (with_reducible repeat (first | refine blk_drewN ?_ _ | refine blk_drew ?_ | refine blk_alloc ?_ _)); refine blk_put (cs := #[.int .i64 a0, .int .i64 0]) ?_ 1 _ rfl; (with_reducible repeat (first | refine blk_drewN ?_ _ | refine blk_drew ?_ | refine blk_alloc ?_ _)); refine blk_put (cs := #[.int .i64 0, .int .i64 0]) ?_ 0 _ rfl; (with_reducible repeat (first | refine blk_drewN ?_ _ | refine blk_drew ?_ | refine blk_alloc ?_ _)); exact BK163.out) Tryd.underlying55 rfl (by kernel_rfl)) rfl ?_
  exact ⟨by first | rfl | (simp [errW_none, errW_some] <;> rfl) | (simp [*, errW_none, errW_some] <;> rfl), by repeat (first | (with_reducible first | exact HB.out | apply below_alloc | apply pw_below_drewN | apply below_drew1 | refine below_set ?_ GE163.out) | exact HB.out)⟩
def wishbooklaw10_delivery.f (a0 : Int) (a1 : Int) (a2 : Int) (a3 : Int) (a4 : Int) : Option (Int × Int × Int × Int × Int) := (wishbookref00_To.f a1 a2).bind fun bt165 => ((wishbookref00_To.f a3 a4).bind fun bt167 => (some (a0, bt165.1, bt165.2, bt167.1, bt167.2)))
set_option maxHeartbeats 8000000 in
set_option maxRecDepth 100000 in
theorem wishbooklaw10_delivery.calls (a0 : Int) (a1 : Int) (a2 : Int) (a3 : Int) (a4 : Int) (r1 : Int) (r2 : Int) (r3 : Int) (r4 : Int) (r5 : Int) (w : World) (h : wishbooklaw10_delivery.f a0 a1 a2 a3 a4 = some (r1, r2, r3, r4, r5)) :
    Calls Tryd.prog 39 #[.int .i64 a0, .int .i64 a1, .int .i64 a2, .int .i64 a3, .int .i64 a4] w fun e w' => e = .returned (.agg #[.int .i64 r1, .int .i64 r2, .int .i64 r3, .int .i64 r4, .int .i64 r5]) ∧ Below w.heap.size w w' := by
  have hu57 := Tryd.underlying57
  have HB := Aside0.mk (Below.refl w.heap.size w)
  have H : ((wishbookref00_To.f a1 a2).bind fun bt165 => ((wishbookref00_To.f a3 a4).bind fun bt167 => (some (a0, bt165.1, bt165.2, bt167.1, bt167.2)))) = some (r1, r2, r3, r4, r5) := h
  clear h
  replace H := Option.bind_eq_some_iff.mp H
  obtain ⟨⟨t165, t166⟩, A60, H⟩ := H
  replace H : ((wishbookref00_To.f a3 a4).bind fun bt167 => (some (a0, t165, t166, bt167.1, bt167.2))) = some (r1, r2, r3, r4, r5) := H
  have A6 := Aside0.mk A60
  clear A60
  replace H := Option.bind_eq_some_iff.mp H
  obtain ⟨⟨t167, t168⟩, A70, H⟩ := H
  replace H : (some (a0, t165, t166, t167, t168)) = some (r1, r2, r3, r4, r5) := H
  have A7 := Aside0.mk A70
  clear A70
  simp only [Option.some.injEq, Prod.mk.injEq] at H
  obtain ⟨rfl, rfl, rfl, rfl, rfl⟩ := H
  go_enter Tryd.func39, Tryd.ntmps39
  go_wp2_with (first | ((with_reducible refine gate_dst (N := 10) rfl ?_); refine box_event ?hg (N := 10) ?hd (cs := #[.int .i64 0, .int .i64 0, .int .i64 0, .int .i64 0, .int .i64 0]) (t := 57) ?hr ?_; (case hd => rfl); (case hg => rfl); (case hr => first | (go_simp; done) | (go_simp; rfl)); intro gb164 hg w8 hbox hb; have n0_ := Aside0.mk (below_step (by repeat (first | (with_reducible first | exact HB.out | apply below_alloc | apply pw_below_drewN | apply below_drew1) | exact HB.out)) hb); have n1_ := Aside0.mk (hbox); have n2_ := Aside0.mk ((by rw [hg]; exact (below_size (by repeat (first | (with_reducible first | exact HB.out | apply below_alloc | apply pw_below_drewN | apply below_drew1) | exact HB.out))) : w.heap.size ≤ gb164)); have n3_ := Aside0.mk ((by rw [hg]; exact (below_size (by repeat (first | (with_reducible first | exact HB.out | apply below_alloc | apply pw_below_drewN | apply below_drew1) | exact HB.out))) : w.heap.size ≤ gb164)); clear HB; have HB := n0_; have BK164 := n1_; have GW164 := n2_; have GE164 := n3_; clear n0_ n1_ n2_ n3_; clear hb hbox hg) | ((with_reducible refine gate_callee (f := 40) rfl ?_); refine goesL_ (some 14) rfl rfl Tryd.func40 (by kernel_rfl) rfl #[.int .i64 a1, .int .i64 a2] rfl (by (try simp only [List.map_toArray, List.map_cons, List.map_nil]); first | done | rfl | (simp only [List.length_drop, List.length_take]; rfl)) ?_; (with_reducible refine (wishbookref00_To.calls a1 a2 t165 t166 _ A6.out).mono ?_); rintro e w9 ⟨rfl, hb⟩; refine ⟨_, rfl, ?_⟩; have n0_ := Aside0.mk (blk_below (g := gb164) (o := .cells #[.int .i64 0, .int .i64 0, .int .i64 0, .int .i64 0, .int .i64 0] 57 (0, 0)) (by (with_reducible repeat (first | refine blk_drewN ?_ _ | refine blk_drew ?_ | refine blk_alloc ?_ _)); exact BK164.out) hb); have n1_ := Aside0.mk (below_step (by repeat (first | (with_reducible first | exact HB.out | apply below_alloc | apply pw_below_drewN | apply below_drew1 | refine below_set ?_ GE164.out) | exact HB.out)) hb); clear BK164; clear HB; have BK164 := n0_; have HB := n1_; clear n0_ n1_; (try clear hb); (try clear hb2); (try clear hk); (try clear hi)) | ((with_reducible refine gate_callee (f := 40) rfl ?_); refine goesL_ (some 17) rfl rfl Tryd.func40 (by kernel_rfl) rfl #[.int .i64 a3, .int .i64 a4] rfl (by (try simp only [List.map_toArray, List.map_cons, List.map_nil]); first | done | rfl | (simp only [List.length_drop, List.length_take]; rfl)) ?_; (with_reducible refine (wishbookref00_To.calls a3 a4 t167 t168 _ A7.out).mono ?_); rintro e w10 ⟨rfl, hb⟩; refine ⟨_, rfl, ?_⟩; have n0_ := Aside0.mk (blk_below (g := gb164) (o := .cells #[.int .i64 0, .int .i64 0, .int .i64 0, .int .i64 0, .int .i64 0] 57 (0, 0)) (by (with_reducible repeat (first | refine blk_drewN ?_ _ | refine blk_drew ?_ | refine blk_alloc ?_ _)); exact BK164.out) hb); have n1_ := Aside0.mk (below_step (by repeat (first | (with_reducible first | exact HB.out | apply below_alloc | apply pw_below_drewN | apply below_drew1 | refine below_set ?_ GE164.out) | exact HB.out)) hb); clear BK164; clear HB; have BK164 := n0_; have HB := n1_; clear n0_ n1_; (try clear hb); (try clear hb2); (try clear hk); (try clear hi); have hcz11_0 : w10.cell? ⟨gb164, 0, none⟩ = some (.int .i64 0) := (blk_cell BK164.out 0).trans rfl; have hcz11_1 : w10.cell? ⟨gb164, 1, none⟩ = some (.int .i64 0) := (blk_cell BK164.out 1).trans rfl; have hcz11_2 : w10.cell? ⟨gb164, 2, none⟩ = some (.int .i64 0) := (blk_cell BK164.out 2).trans rfl; have hcz11_3 : w10.cell? ⟨gb164, 3, none⟩ = some (.int .i64 0) := (blk_cell BK164.out 3).trans rfl; have hcz11_4 : w10.cell? ⟨gb164, 4, none⟩ = some (.int .i64 0) := (blk_cell BK164.out 4).trans rfl; have hfz11_0 := blk_frozen BK164.out 0; have hfz11_1 := blk_frozen BK164.out 1; have hfz11_2 := blk_frozen BK164.out 2; have hfz11_3 := blk_frozen BK164.out 3; have hfz11_4 := blk_frozen BK164.out 4))
  refine bodyPost_ret (results_cell_row rfl _ _ gb164 57 #[.int .i64 a0, .int .i64 t165, .int .i64 t166, .int .i64 t167, .int .i64 t168] (0, 0) _ rfl (by (with_reducible repeat (first | refine blk_drewN ?_ _ | refine blk_drew ?_ | refine blk_alloc ?_ _)); refine blk_put (cs := #[.int .i64 a0, .int .i64 t165, .int .i64 t166, .int .i64 t167, .int .i64 0]) ?_ 4 _ rfl; (with_reducible repeat (first | refine blk_drewN ?_ _ | refine blk_drew ?_ | refine blk_alloc ?_ _)); refine blk_put (cs := #[.int .i64 a0, .int .i64 t165, .int .i64 t166, .int .i64 0, .int .i64 0]) ?_ 3 _ rfl; (with_reducible repeat (first | refine blk_drewN ?_ _ | refine blk_drew ?_ | refine blk_alloc ?_ _)); refine blk_put (cs := #[.int .i64 a0, .int .i64 t165, .int .i64 0, .int .i64 0, .int .i64 0]) ?_ 2 _ rfl; (with_reducible repeat (first | refine blk_drewN ?_ _ | refine blk_drew ?_ | refine blk_alloc ?_ _)); refine blk_put (cs := #[.int .i64 a0, .int .i64 0, .int .i64 0, .int .i64 0, .int .i64 0]) ?_ 1 _ rfl; (with_reducible repeat (first | refine blk_drewN ?_ _ | refine blk_drew ?_ | refine blk_alloc ?_ _)); refine blk_put (cs := #[.int .i64 0, .int .i64 0, .int .i64 0, .int .i64 0, .int .i64 0]) ?_ 0 _ rfl; (with_reducible repeat (first | refine blk_drewN ?_ _ | refine blk_drew ?_ | refine blk_alloc ?_ _)); exact BK164.out) Tryd.underlying57 rfl (by kernel_rfl)) rfl ?_
  exact ⟨by first | rfl | (simp [errW_none, errW_some] <;> rfl) | (simp [*, errW_none, errW_some] <;> rfl), by repeat (first | (with_reducible first | exact HB.out | apply below_alloc | apply pw_below_drewN | apply below_drew1 | refine below_set ?_ GE164.out) | exact HB.out)⟩
def wishbooklaw10_line.f (a0 : Int) (a1 : Int) (a2 : Int) (a3 : Int) (a4 : Int) : Option (Int × Int × Int × Int × Int) := some (a0, a1, a2, a3, a4)
set_option maxHeartbeats 8000000 in
set_option maxRecDepth 100000 in
theorem wishbooklaw10_line.calls (a0 : Int) (a1 : Int) (a2 : Int) (a3 : Int) (a4 : Int) (r1 : Int) (r2 : Int) (r3 : Int) (r4 : Int) (r5 : Int) (w : World) (h : wishbooklaw10_line.f a0 a1 a2 a3 a4 = some (r1, r2, r3, r4, r5)) :
    Calls Tryd.prog 68 #[.int .i64 a0, .int .i64 a1, .int .i64 a2, .int .i64 a3, .int .i64 a4] w fun e w' => e = .returned (.agg #[.int .i64 r1, .int .i64 r2, .int .i64 r3, .int .i64 r4, .int .i64 r5]) ∧ Below w.heap.size w w' := by
  have hu47 := Tryd.underlying47
  have HB := Aside0.mk (Below.refl w.heap.size w)
  have H : (some (a0, a1, a2, a3, a4)) = some (r1, r2, r3, r4, r5) := h
  clear h
  simp only [Option.some.injEq, Prod.mk.injEq] at H
  obtain ⟨rfl, rfl, rfl, rfl, rfl⟩ := H
  go_enter Tryd.func68, Tryd.ntmps68
  go_wp2_with (first | ((with_reducible refine gate_dst (N := 10) rfl ?_); refine box_event ?hg (N := 10) ?hd (cs := #[.int .i64 0, .int .i64 0, .int .i64 0, .int .i64 0, .int .i64 0]) (t := 47) ?hr ?_; (case hd => rfl); (case hg => rfl); (case hr => first | (go_simp; done) | (go_simp; rfl)); intro gb169 hg w6 hbox hb; have n0_ := Aside0.mk (below_step (by repeat (first | (with_reducible first | exact HB.out | apply below_alloc | apply pw_below_drewN | apply below_drew1) | exact HB.out)) hb); have n1_ := Aside0.mk (hbox); have n2_ := Aside0.mk ((by rw [hg]; exact (below_size (by repeat (first | (with_reducible first | exact HB.out | apply below_alloc | apply pw_below_drewN | apply below_drew1) | exact HB.out))) : w.heap.size ≤ gb169)); have n3_ := Aside0.mk ((by rw [hg]; exact (below_size (by repeat (first | (with_reducible first | exact HB.out | apply below_alloc | apply pw_below_drewN | apply below_drew1) | exact HB.out))) : w.heap.size ≤ gb169)); clear HB; have HB := n0_; have BK169 := n1_; have GW169 := n2_; have GE169 := n3_; clear n0_ n1_ n2_ n3_; clear hb hbox hg; have hcz7_0 : w6.cell? ⟨gb169, 0, none⟩ = some (.int .i64 0) := (blk_cell BK169.out 0).trans rfl; have hcz7_1 : w6.cell? ⟨gb169, 1, none⟩ = some (.int .i64 0) := (blk_cell BK169.out 1).trans rfl; have hcz7_2 : w6.cell? ⟨gb169, 2, none⟩ = some (.int .i64 0) := (blk_cell BK169.out 2).trans rfl; have hcz7_3 : w6.cell? ⟨gb169, 3, none⟩ = some (.int .i64 0) := (blk_cell BK169.out 3).trans rfl; have hcz7_4 : w6.cell? ⟨gb169, 4, none⟩ = some (.int .i64 0) := (blk_cell BK169.out 4).trans rfl; have hfz7_0 := blk_frozen BK169.out 0; have hfz7_1 := blk_frozen BK169.out 1; have hfz7_2 := blk_frozen BK169.out 2; have hfz7_3 := blk_frozen BK169.out 3; have hfz7_4 := blk_frozen BK169.out 4))
  refine bodyPost_ret (results_cell_row rfl _ _ gb169 47 #[.int .i64 a0, .int .i64 a1, .int .i64 a2, .int .i64 a3, .int .i64 a4] (0, 0) _ rfl (by (with_reducible repeat (first | refine blk_drewN ?_ _ | refine blk_drew ?_ | refine blk_alloc ?_ _)); refine blk_put (cs := #[.int .i64 a0, .int .i64 a1, .int .i64 a2, .int .i64 a3, .int .i64 0]) ?_ 4 _ rfl; (with_reducible repeat (first | refine blk_drewN ?_ _ | refine blk_drew ?_ | refine blk_alloc ?_ _)); refine blk_put (cs := #[.int .i64 a0, .int .i64 a1, .int .i64 a2, .int .i64 0, .int .i64 0]) ?_ 3 _ rfl; (with_reducible repeat (first | refine blk_drewN ?_ _ | refine blk_drew ?_ | refine blk_alloc ?_ _)); refine blk_put (cs := #[.int .i64 a0, .int .i64 a1, .int .i64 0, .int .i64 0, .int .i64 0]) ?_ 2 _ rfl; (with_reducible repeat (first | refine blk_drewN ?_ _ | refine blk_drew ?_ | refine blk_alloc ?_ _)); refine blk_put (cs := #[.int .i64 a0, .int .i64 0, .int .i64 0, .int .i64 0, .int .i64 0]) ?_ 1 _ rfl; (with_reducible repeat (first | refine blk_drewN ?_ _ | refine blk_drew ?_ | refine blk_alloc ?_ _)); refine blk_put (cs := #[.int .i64 0, .int .i64 0, .int .i64 0, .int .i64 0, .int .i64 0]) ?_ 0 _ rfl; (with_reducible repeat (first | refine blk_drewN ?_ _ | refine blk_drew ?_ | refine blk_alloc ?_ _)); exact BK169.out) Tryd.underlying47 rfl (by kernel_rfl)) rfl ?_
  exact ⟨by first | rfl | (simp [errW_none, errW_some] <;> rfl) | (simp [*, errW_none, errW_some] <;> rfl), by repeat (first | (with_reducible first | exact HB.out | apply below_alloc | apply pw_below_drewN | apply below_drew1 | refine below_set ?_ GE169.out) | exact HB.out)⟩
def wishbooklaw10_book.f  : Option (List Int × (List (S47)) × (List (S57))) := (wishbooklaw10_line.f 0 0 3 10 (-1)).bind fun bt174 => ((wishbooklaw10_line.f 0 1 4 20 0).bind fun bt179 => ((wishbooklaw10_line.f 1 2 6 30 (-1)).bind fun bt184 => ((wishbooklaw10_line.f 2 2 5 15 (-1)).bind fun bt189 => ((wishbooklaw10_line.f 2 0 2 40 (-1)).bind fun bt194 => ((wishbooklaw10_delivery.f 2 5 12 4 6).bind fun bt202 => ((wishbooklaw10_delivery.f 2 20 28 3 9).bind fun bt207 => ((wishbooklaw10_delivery.f 0 30 35 1 1).bind fun bt212 => (some ((([5, 2, 0] : List Int)), (([(⟨bt174.1, bt174.2.1, bt174.2.2.1, bt174.2.2.2.1, bt174.2.2.2.2⟩ : S47), (⟨bt179.1, bt179.2.1, bt179.2.2.1, bt179.2.2.2.1, bt179.2.2.2.2⟩ : S47), (⟨bt184.1, bt184.2.1, bt184.2.2.1, bt184.2.2.2.1, bt184.2.2.2.2⟩ : S47), (⟨bt189.1, bt189.2.1, bt189.2.2.1, bt189.2.2.2.1, bt189.2.2.2.2⟩ : S47), (⟨bt194.1, bt194.2.1, bt194.2.2.1, bt194.2.2.2.1, bt194.2.2.2.2⟩ : S47)] : List (S47))), (([(⟨bt202.1, (⟨bt202.2.1, bt202.2.2.1⟩ : S55), (⟨bt202.2.2.2.1, bt202.2.2.2.2⟩ : S55)⟩ : S57), (⟨bt207.1, (⟨bt207.2.1, bt207.2.2.1⟩ : S55), (⟨bt207.2.2.2.1, bt207.2.2.2.2⟩ : S55)⟩ : S57), (⟨bt212.1, (⟨bt212.2.1, bt212.2.2.1⟩ : S55), (⟨bt212.2.2.2.1, bt212.2.2.2.2⟩ : S55)⟩ : S57)] : List (S57))))))))))))
set_option maxHeartbeats 8000000 in
set_option maxRecDepth 100000 in
theorem wishbooklaw10_book.calls  (r1 : List Int) (r2 : List (S47)) (r3 : List (S57)) (w : World) (h : wishbooklaw10_book.f  = some (r1, r2, r3)) :
    Calls Tryd.prog 43 #[] w fun e w' => ∃ v0_ v1_ v2_ : Value, e = .returned (.agg #[v0_, v1_, v2_]) ∧ Kd.R (Kd.int .i64) 3 w' w.heap.size (fun _ => True) v0_ r1 ∧ Kd.R k47 47 w' w.heap.size (fun _ => True) v1_ r2 ∧ Kd.R k57 57 w' w.heap.size (fun _ => True) v2_ r3 ∧ Below w.heap.size w w' := by
  have hu26 := Tryd.underlying26
  have HB := Aside0.mk (Below.refl w.heap.size w)
  have H : ((wishbooklaw10_line.f 0 0 3 10 (-1)).bind fun bt174 => ((wishbooklaw10_line.f 0 1 4 20 0).bind fun bt179 => ((wishbooklaw10_line.f 1 2 6 30 (-1)).bind fun bt184 => ((wishbooklaw10_line.f 2 2 5 15 (-1)).bind fun bt189 => ((wishbooklaw10_line.f 2 0 2 40 (-1)).bind fun bt194 => ((wishbooklaw10_delivery.f 2 5 12 4 6).bind fun bt202 => ((wishbooklaw10_delivery.f 2 20 28 3 9).bind fun bt207 => ((wishbooklaw10_delivery.f 0 30 35 1 1).bind fun bt212 => (some ((([5, 2, 0] : List Int)), (([(⟨bt174.1, bt174.2.1, bt174.2.2.1, bt174.2.2.2.1, bt174.2.2.2.2⟩ : S47), (⟨bt179.1, bt179.2.1, bt179.2.2.1, bt179.2.2.2.1, bt179.2.2.2.2⟩ : S47), (⟨bt184.1, bt184.2.1, bt184.2.2.1, bt184.2.2.2.1, bt184.2.2.2.2⟩ : S47), (⟨bt189.1, bt189.2.1, bt189.2.2.1, bt189.2.2.2.1, bt189.2.2.2.2⟩ : S47), (⟨bt194.1, bt194.2.1, bt194.2.2.1, bt194.2.2.2.1, bt194.2.2.2.2⟩ : S47)] : List (S47))), (([(⟨bt202.1, (⟨bt202.2.1, bt202.2.2.1⟩ : S55), (⟨bt202.2.2.2.1, bt202.2.2.2.2⟩ : S55)⟩ : S57), (⟨bt207.1, (⟨bt207.2.1, bt207.2.2.1⟩ : S55), (⟨bt207.2.2.2.1, bt207.2.2.2.2⟩ : S55)⟩ : S57), (⟨bt212.1, (⟨bt212.2.1, bt212.2.2.1⟩ : S55), (⟨bt212.2.2.2.1, bt212.2.2.2.2⟩ : S55)⟩ : S57)] : List (S57))))))))))))) = some (r1, r2, r3) := h
  clear h
  obtain ⟨y171, hy171⟩ : ∃ y_ : List Int, y_ = (([5, 2, 0] : List Int)) := ⟨_, rfl⟩
  replace H : ((wishbooklaw10_line.f 0 0 3 10 (-1)).bind fun bt174 => ((wishbooklaw10_line.f 0 1 4 20 0).bind fun bt179 => ((wishbooklaw10_line.f 1 2 6 30 (-1)).bind fun bt184 => ((wishbooklaw10_line.f 2 2 5 15 (-1)).bind fun bt189 => ((wishbooklaw10_line.f 2 0 2 40 (-1)).bind fun bt194 => ((wishbooklaw10_delivery.f 2 5 12 4 6).bind fun bt202 => ((wishbooklaw10_delivery.f 2 20 28 3 9).bind fun bt207 => ((wishbooklaw10_delivery.f 0 30 35 1 1).bind fun bt212 => (some (y171, (([(⟨bt174.1, bt174.2.1, bt174.2.2.1, bt174.2.2.2.1, bt174.2.2.2.2⟩ : S47), (⟨bt179.1, bt179.2.1, bt179.2.2.1, bt179.2.2.2.1, bt179.2.2.2.2⟩ : S47), (⟨bt184.1, bt184.2.1, bt184.2.2.1, bt184.2.2.2.1, bt184.2.2.2.2⟩ : S47), (⟨bt189.1, bt189.2.1, bt189.2.2.1, bt189.2.2.2.1, bt189.2.2.2.2⟩ : S47), (⟨bt194.1, bt194.2.1, bt194.2.2.1, bt194.2.2.2.1, bt194.2.2.2.2⟩ : S47)] : List (S47))), (([(⟨bt202.1, (⟨bt202.2.1, bt202.2.2.1⟩ : S55), (⟨bt202.2.2.2.1, bt202.2.2.2.2⟩ : S55)⟩ : S57), (⟨bt207.1, (⟨bt207.2.1, bt207.2.2.1⟩ : S55), (⟨bt207.2.2.2.1, bt207.2.2.2.2⟩ : S55)⟩ : S57), (⟨bt212.1, (⟨bt212.2.1, bt212.2.2.1⟩ : S55), (⟨bt212.2.2.2.1, bt212.2.2.2.2⟩ : S55)⟩ : S57)] : List (S57))))))))))))) = some (r1, r2, r3) := by first | (rw [hy171]; with_reducible exact H) | (have H2_ := (Option.bind_some _ _).symm.trans H; rw [hy171]; with_reducible exact H2_) | (have H2_ := (Option.bind_some _ _).symm.trans H; with_reducible exact H2_) | with_reducible exact H | (rw [hy171]; exact H) | exact H
  have Ny171 := Aside0.mk hy171
  clear hy171
  replace H := Option.bind_eq_some_iff.mp H
  obtain ⟨⟨t174, t175, t176, t177, t178⟩, A10, H⟩ := H
  replace H : ((wishbooklaw10_line.f 0 1 4 20 0).bind fun bt179 => ((wishbooklaw10_line.f 1 2 6 30 (-1)).bind fun bt184 => ((wishbooklaw10_line.f 2 2 5 15 (-1)).bind fun bt189 => ((wishbooklaw10_line.f 2 0 2 40 (-1)).bind fun bt194 => ((wishbooklaw10_delivery.f 2 5 12 4 6).bind fun bt202 => ((wishbooklaw10_delivery.f 2 20 28 3 9).bind fun bt207 => ((wishbooklaw10_delivery.f 0 30 35 1 1).bind fun bt212 => (some (y171, (([(⟨t174, t175, t176, t177, t178⟩ : S47), (⟨bt179.1, bt179.2.1, bt179.2.2.1, bt179.2.2.2.1, bt179.2.2.2.2⟩ : S47), (⟨bt184.1, bt184.2.1, bt184.2.2.1, bt184.2.2.2.1, bt184.2.2.2.2⟩ : S47), (⟨bt189.1, bt189.2.1, bt189.2.2.1, bt189.2.2.2.1, bt189.2.2.2.2⟩ : S47), (⟨bt194.1, bt194.2.1, bt194.2.2.1, bt194.2.2.2.1, bt194.2.2.2.2⟩ : S47)] : List (S47))), (([(⟨bt202.1, (⟨bt202.2.1, bt202.2.2.1⟩ : S55), (⟨bt202.2.2.2.1, bt202.2.2.2.2⟩ : S55)⟩ : S57), (⟨bt207.1, (⟨bt207.2.1, bt207.2.2.1⟩ : S55), (⟨bt207.2.2.2.1, bt207.2.2.2.2⟩ : S55)⟩ : S57), (⟨bt212.1, (⟨bt212.2.1, bt212.2.2.1⟩ : S55), (⟨bt212.2.2.2.1, bt212.2.2.2.2⟩ : S55)⟩ : S57)] : List (S57)))))))))))) = some (r1, r2, r3) := H
  have A1 := Aside0.mk A10
  clear A10
  replace H := Option.bind_eq_some_iff.mp H
  obtain ⟨⟨t179, t180, t181, t182, t183⟩, A20, H⟩ := H
  replace H : ((wishbooklaw10_line.f 1 2 6 30 (-1)).bind fun bt184 => ((wishbooklaw10_line.f 2 2 5 15 (-1)).bind fun bt189 => ((wishbooklaw10_line.f 2 0 2 40 (-1)).bind fun bt194 => ((wishbooklaw10_delivery.f 2 5 12 4 6).bind fun bt202 => ((wishbooklaw10_delivery.f 2 20 28 3 9).bind fun bt207 => ((wishbooklaw10_delivery.f 0 30 35 1 1).bind fun bt212 => (some (y171, (([(⟨t174, t175, t176, t177, t178⟩ : S47), (⟨t179, t180, t181, t182, t183⟩ : S47), (⟨bt184.1, bt184.2.1, bt184.2.2.1, bt184.2.2.2.1, bt184.2.2.2.2⟩ : S47), (⟨bt189.1, bt189.2.1, bt189.2.2.1, bt189.2.2.2.1, bt189.2.2.2.2⟩ : S47), (⟨bt194.1, bt194.2.1, bt194.2.2.1, bt194.2.2.2.1, bt194.2.2.2.2⟩ : S47)] : List (S47))), (([(⟨bt202.1, (⟨bt202.2.1, bt202.2.2.1⟩ : S55), (⟨bt202.2.2.2.1, bt202.2.2.2.2⟩ : S55)⟩ : S57), (⟨bt207.1, (⟨bt207.2.1, bt207.2.2.1⟩ : S55), (⟨bt207.2.2.2.1, bt207.2.2.2.2⟩ : S55)⟩ : S57), (⟨bt212.1, (⟨bt212.2.1, bt212.2.2.1⟩ : S55), (⟨bt212.2.2.2.1, bt212.2.2.2.2⟩ : S55)⟩ : S57)] : List (S57))))))))))) = some (r1, r2, r3) := H
  have A2 := Aside0.mk A20
  clear A20
  replace H := Option.bind_eq_some_iff.mp H
  obtain ⟨⟨t184, t185, t186, t187, t188⟩, A30, H⟩ := H
  replace H : ((wishbooklaw10_line.f 2 2 5 15 (-1)).bind fun bt189 => ((wishbooklaw10_line.f 2 0 2 40 (-1)).bind fun bt194 => ((wishbooklaw10_delivery.f 2 5 12 4 6).bind fun bt202 => ((wishbooklaw10_delivery.f 2 20 28 3 9).bind fun bt207 => ((wishbooklaw10_delivery.f 0 30 35 1 1).bind fun bt212 => (some (y171, (([(⟨t174, t175, t176, t177, t178⟩ : S47), (⟨t179, t180, t181, t182, t183⟩ : S47), (⟨t184, t185, t186, t187, t188⟩ : S47), (⟨bt189.1, bt189.2.1, bt189.2.2.1, bt189.2.2.2.1, bt189.2.2.2.2⟩ : S47), (⟨bt194.1, bt194.2.1, bt194.2.2.1, bt194.2.2.2.1, bt194.2.2.2.2⟩ : S47)] : List (S47))), (([(⟨bt202.1, (⟨bt202.2.1, bt202.2.2.1⟩ : S55), (⟨bt202.2.2.2.1, bt202.2.2.2.2⟩ : S55)⟩ : S57), (⟨bt207.1, (⟨bt207.2.1, bt207.2.2.1⟩ : S55), (⟨bt207.2.2.2.1, bt207.2.2.2.2⟩ : S55)⟩ : S57), (⟨bt212.1, (⟨bt212.2.1, bt212.2.2.1⟩ : S55), (⟨bt212.2.2.2.1, bt212.2.2.2.2⟩ : S55)⟩ : S57)] : List (S57)))))))))) = some (r1, r2, r3) := H
  have A3 := Aside0.mk A30
  clear A30
  replace H := Option.bind_eq_some_iff.mp H
  obtain ⟨⟨t189, t190, t191, t192, t193⟩, A40, H⟩ := H
  replace H : ((wishbooklaw10_line.f 2 0 2 40 (-1)).bind fun bt194 => ((wishbooklaw10_delivery.f 2 5 12 4 6).bind fun bt202 => ((wishbooklaw10_delivery.f 2 20 28 3 9).bind fun bt207 => ((wishbooklaw10_delivery.f 0 30 35 1 1).bind fun bt212 => (some (y171, (([(⟨t174, t175, t176, t177, t178⟩ : S47), (⟨t179, t180, t181, t182, t183⟩ : S47), (⟨t184, t185, t186, t187, t188⟩ : S47), (⟨t189, t190, t191, t192, t193⟩ : S47), (⟨bt194.1, bt194.2.1, bt194.2.2.1, bt194.2.2.2.1, bt194.2.2.2.2⟩ : S47)] : List (S47))), (([(⟨bt202.1, (⟨bt202.2.1, bt202.2.2.1⟩ : S55), (⟨bt202.2.2.2.1, bt202.2.2.2.2⟩ : S55)⟩ : S57), (⟨bt207.1, (⟨bt207.2.1, bt207.2.2.1⟩ : S55), (⟨bt207.2.2.2.1, bt207.2.2.2.2⟩ : S55)⟩ : S57), (⟨bt212.1, (⟨bt212.2.1, bt212.2.2.1⟩ : S55), (⟨bt212.2.2.2.1, bt212.2.2.2.2⟩ : S55)⟩ : S57)] : List (S57))))))))) = some (r1, r2, r3) := H
  have A4 := Aside0.mk A40
  clear A40
  replace H := Option.bind_eq_some_iff.mp H
  obtain ⟨⟨t194, t195, t196, t197, t198⟩, A50, H⟩ := H
  replace H : ((wishbooklaw10_delivery.f 2 5 12 4 6).bind fun bt202 => ((wishbooklaw10_delivery.f 2 20 28 3 9).bind fun bt207 => ((wishbooklaw10_delivery.f 0 30 35 1 1).bind fun bt212 => (some (y171, (([(⟨t174, t175, t176, t177, t178⟩ : S47), (⟨t179, t180, t181, t182, t183⟩ : S47), (⟨t184, t185, t186, t187, t188⟩ : S47), (⟨t189, t190, t191, t192, t193⟩ : S47), (⟨t194, t195, t196, t197, t198⟩ : S47)] : List (S47))), (([(⟨bt202.1, (⟨bt202.2.1, bt202.2.2.1⟩ : S55), (⟨bt202.2.2.2.1, bt202.2.2.2.2⟩ : S55)⟩ : S57), (⟨bt207.1, (⟨bt207.2.1, bt207.2.2.1⟩ : S55), (⟨bt207.2.2.2.1, bt207.2.2.2.2⟩ : S55)⟩ : S57), (⟨bt212.1, (⟨bt212.2.1, bt212.2.2.1⟩ : S55), (⟨bt212.2.2.2.1, bt212.2.2.2.2⟩ : S55)⟩ : S57)] : List (S57)))))))) = some (r1, r2, r3) := H
  have A5 := Aside0.mk A50
  clear A50
  obtain ⟨y199, hy199⟩ : ∃ y_ : List (S47), y_ = (([(⟨t174, t175, t176, t177, t178⟩ : S47), (⟨t179, t180, t181, t182, t183⟩ : S47), (⟨t184, t185, t186, t187, t188⟩ : S47), (⟨t189, t190, t191, t192, t193⟩ : S47), (⟨t194, t195, t196, t197, t198⟩ : S47)] : List (S47))) := ⟨_, rfl⟩
  replace H : ((wishbooklaw10_delivery.f 2 5 12 4 6).bind fun bt202 => ((wishbooklaw10_delivery.f 2 20 28 3 9).bind fun bt207 => ((wishbooklaw10_delivery.f 0 30 35 1 1).bind fun bt212 => (some (y171, y199, (([(⟨bt202.1, (⟨bt202.2.1, bt202.2.2.1⟩ : S55), (⟨bt202.2.2.2.1, bt202.2.2.2.2⟩ : S55)⟩ : S57), (⟨bt207.1, (⟨bt207.2.1, bt207.2.2.1⟩ : S55), (⟨bt207.2.2.2.1, bt207.2.2.2.2⟩ : S55)⟩ : S57), (⟨bt212.1, (⟨bt212.2.1, bt212.2.2.1⟩ : S55), (⟨bt212.2.2.2.1, bt212.2.2.2.2⟩ : S55)⟩ : S57)] : List (S57)))))))) = some (r1, r2, r3) := by first | (rw [hy199]; with_reducible exact H) | (have H2_ := (Option.bind_some _ _).symm.trans H; rw [hy199]; with_reducible exact H2_) | (have H2_ := (Option.bind_some _ _).symm.trans H; with_reducible exact H2_) | with_reducible exact H | (rw [hy199]; exact H) | exact H
  have Ny199 := Aside0.mk hy199
  clear hy199
  replace H := Option.bind_eq_some_iff.mp H
  obtain ⟨⟨t202, t203, t204, t205, t206⟩, A60, H⟩ := H
  replace H : ((wishbooklaw10_delivery.f 2 20 28 3 9).bind fun bt207 => ((wishbooklaw10_delivery.f 0 30 35 1 1).bind fun bt212 => (some (y171, y199, (([(⟨t202, (⟨t203, t204⟩ : S55), (⟨t205, t206⟩ : S55)⟩ : S57), (⟨bt207.1, (⟨bt207.2.1, bt207.2.2.1⟩ : S55), (⟨bt207.2.2.2.1, bt207.2.2.2.2⟩ : S55)⟩ : S57), (⟨bt212.1, (⟨bt212.2.1, bt212.2.2.1⟩ : S55), (⟨bt212.2.2.2.1, bt212.2.2.2.2⟩ : S55)⟩ : S57)] : List (S57))))))) = some (r1, r2, r3) := H
  have A6 := Aside0.mk A60
  clear A60
  replace H := Option.bind_eq_some_iff.mp H
  obtain ⟨⟨t207, t208, t209, t210, t211⟩, A70, H⟩ := H
  replace H : ((wishbooklaw10_delivery.f 0 30 35 1 1).bind fun bt212 => (some (y171, y199, (([(⟨t202, (⟨t203, t204⟩ : S55), (⟨t205, t206⟩ : S55)⟩ : S57), (⟨t207, (⟨t208, t209⟩ : S55), (⟨t210, t211⟩ : S55)⟩ : S57), (⟨bt212.1, (⟨bt212.2.1, bt212.2.2.1⟩ : S55), (⟨bt212.2.2.2.1, bt212.2.2.2.2⟩ : S55)⟩ : S57)] : List (S57)))))) = some (r1, r2, r3) := H
  have A7 := Aside0.mk A70
  clear A70
  replace H := Option.bind_eq_some_iff.mp H
  obtain ⟨⟨t212, t213, t214, t215, t216⟩, A80, H⟩ := H
  replace H : (some (y171, y199, (([(⟨t202, (⟨t203, t204⟩ : S55), (⟨t205, t206⟩ : S55)⟩ : S57), (⟨t207, (⟨t208, t209⟩ : S55), (⟨t210, t211⟩ : S55)⟩ : S57), (⟨t212, (⟨t213, t214⟩ : S55), (⟨t215, t216⟩ : S55)⟩ : S57)] : List (S57))))) = some (r1, r2, r3) := H
  have A8 := Aside0.mk A80
  clear A80
  obtain ⟨y217, hy217⟩ : ∃ y_ : List (S57), y_ = (([(⟨t202, (⟨t203, t204⟩ : S55), (⟨t205, t206⟩ : S55)⟩ : S57), (⟨t207, (⟨t208, t209⟩ : S55), (⟨t210, t211⟩ : S55)⟩ : S57), (⟨t212, (⟨t213, t214⟩ : S55), (⟨t215, t216⟩ : S55)⟩ : S57)] : List (S57))) := ⟨_, rfl⟩
  replace H : (some (y171, y199, y217)) = some (r1, r2, r3) := by first | (rw [hy217]; with_reducible exact H) | (have H2_ := (Option.bind_some _ _).symm.trans H; rw [hy217]; with_reducible exact H2_) | (have H2_ := (Option.bind_some _ _).symm.trans H; with_reducible exact H2_) | with_reducible exact H | (rw [hy217]; exact H) | exact H
  have Ny217 := Aside0.mk hy217
  clear hy217
  simp only [Option.some.injEq, Prod.mk.injEq] at H
  obtain ⟨rfl, rfl, rfl⟩ := H
  go_enter Tryd.func43, Tryd.ntmps43
  go_wp2_with (first | ((with_reducible refine gate_dst (N := 0) rfl ?_); refine box_event ?hg (N := 0) ?hd (cs := #[.slice none 0 0, .slice none 0 0, .slice none 0 0]) (t := 26) ?hr ?_; (case hd => rfl); (case hg => rfl); (case hr => first | (go_simp; done) | (go_simp; rfl)); intro gb170 hg w9 hbox hb; have n0_ := Aside0.mk (below_step (by repeat (first | (with_reducible first | exact HB.out | apply below_alloc | apply pw_below_drewN | apply below_drew1) | exact HB.out)) hb); have n1_ := Aside0.mk (hbox); have n2_ := Aside0.mk ((by rw [hg]; exact (below_size (by repeat (first | (with_reducible first | exact HB.out | apply below_alloc | apply pw_below_drewN | apply below_drew1) | exact HB.out))) : w.heap.size ≤ gb170)); have n3_ := Aside0.mk ((by rw [hg]; exact (below_size (by repeat (first | (with_reducible first | exact HB.out | apply below_alloc | apply pw_below_drewN | apply below_drew1) | exact HB.out))) : w.heap.size ≤ gb170)); clear HB; have HB := n0_; have BK170 := n1_; have GW170 := n2_; have GE170 := n3_; clear n0_ n1_ n2_ n3_; clear hb hbox hg) | ((with_reducible refine gate_dst (N := 1) rfl ?_); refine Kd.R_lit (Kd.int .i64) _ 3 ?hg (N := 1) ?hd (xs := ([5, 2, 0] : List Int)) (inner := [.int .i64 5, .int .i64 2, .int .i64 0]) (ok := fun _ => True) (okp := fun _ => True) ?hr ?hp (fun _ hk => hk) trivial (Below.refl _ _) (Nat.le_refl _) (by simp) ?_; (case hd => rfl); (case hg => rfl); (case hr => first | (go_simp; done) | (go_simp; rfl)); (case hp => exact (Reps.one (show Kd.M (Kd.int .i64) _ _ _ 5 [.int .i64 5] from rfl) (Reps.one (show Kd.M (Kd.int .i64) _ _ _ 2 [.int .i64 2] from rfl) (Reps.one (show Kd.M (Kd.int .i64) _ _ _ 0 [.int .i64 0] from rfl) (Reps.none _ _))))); intro v172 w10 ho11 hb hg_ hnew_; clear hg_ hnew_; (first | rw [← Ny171.out] at ho11 | (simp only [Int.reduceToNat] at ho11; rw [← Ny171.out] at ho11)); have n0_ := Aside0.mk (Kd.R_lower ho11 (below_size (by repeat (first | (with_reducible first | exact HB.out | apply below_alloc | apply pw_below_drewN | apply below_drew1 | refine below_set ?_ GE170.out) | exact HB.out)))); have n1_ := Aside0.mk (blk_below (g := gb170) (o := .cells #[.slice none 0 0, .slice none 0 0, .slice none 0 0] 26 (0, 0)) (by (with_reducible repeat (first | refine blk_drewN ?_ _ | refine blk_drew ?_ | refine blk_alloc ?_ _)); exact BK170.out) hb); have n2_ := Aside0.mk (below_step (by repeat (first | (with_reducible first | exact HB.out | apply below_alloc | apply pw_below_drewN | apply below_drew1 | refine below_set ?_ GE170.out) | exact HB.out)) hb); clear BK170; clear HB; have HO173 := n0_; have BK170 := n1_; have HB := n2_; clear n0_ n1_ n2_; clear hb ho11) | ((with_reducible refine gate_callee (f := 68) rfl ?_); refine goesL_ (some 2) rfl rfl Tryd.func68 (by kernel_rfl) rfl #[.int .i64 0, .int .i64 0, .int .i64 3, .int .i64 10, .int .i64 (-1)] rfl (by (try simp only [List.map_toArray, List.map_cons, List.map_nil]); first | done | rfl | (simp only [List.length_drop, List.length_take]; rfl)) ?_; (with_reducible refine (wishbooklaw10_line.calls 0 0 3 10 (-1) t174 t175 t176 t177 t178 _ A1.out).mono ?_); rintro e w12 ⟨rfl, hb⟩; refine ⟨_, rfl, ?_⟩; have n0_ := Aside0.mk (Kd.R_below (by (with_reducible repeat (first | apply Kd.R_alloc | apply Kd.R_drewN | apply Kd.R_drew)); exact HO173.out) hb); have n1_ := Aside0.mk (blk_below (g := gb170) (o := .cells #[.slice none 0 0, .slice none 0 0, .slice none 0 0] 26 (0, 0)) (by (with_reducible repeat (first | refine blk_drewN ?_ _ | refine blk_drew ?_ | refine blk_alloc ?_ _)); exact BK170.out) hb); have n2_ := Aside0.mk (below_step (by repeat (first | (with_reducible first | exact HB.out | apply below_alloc | apply pw_below_drewN | apply below_drew1 | refine below_set ?_ GE170.out) | exact HB.out)) hb); clear HO173; clear BK170; clear HB; have HO173 := n0_; have BK170 := n1_; have HB := n2_; clear n0_ n1_ n2_; (try clear hb); (try clear hb2); (try clear hk); (try clear hi)) | ((with_reducible refine gate_callee (f := 68) rfl ?_); refine goesL_ (some 3) rfl rfl Tryd.func68 (by kernel_rfl) rfl #[.int .i64 0, .int .i64 1, .int .i64 4, .int .i64 20, .int .i64 0] rfl (by (try simp only [List.map_toArray, List.map_cons, List.map_nil]); first | done | rfl | (simp only [List.length_drop, List.length_take]; rfl)) ?_; (with_reducible refine (wishbooklaw10_line.calls 0 1 4 20 0 t179 t180 t181 t182 t183 _ A2.out).mono ?_); rintro e w13 ⟨rfl, hb⟩; refine ⟨_, rfl, ?_⟩; have n0_ := Aside0.mk (Kd.R_below (by (with_reducible repeat (first | apply Kd.R_alloc | apply Kd.R_drewN | apply Kd.R_drew)); exact HO173.out) hb); have n1_ := Aside0.mk (blk_below (g := gb170) (o := .cells #[.slice none 0 0, .slice none 0 0, .slice none 0 0] 26 (0, 0)) (by (with_reducible repeat (first | refine blk_drewN ?_ _ | refine blk_drew ?_ | refine blk_alloc ?_ _)); exact BK170.out) hb); have n2_ := Aside0.mk (below_step (by repeat (first | (with_reducible first | exact HB.out | apply below_alloc | apply pw_below_drewN | apply below_drew1 | refine below_set ?_ GE170.out) | exact HB.out)) hb); clear HO173; clear BK170; clear HB; have HO173 := n0_; have BK170 := n1_; have HB := n2_; clear n0_ n1_ n2_; (try clear hb); (try clear hb2); (try clear hk); (try clear hi)) | ((with_reducible refine gate_callee (f := 68) rfl ?_); refine goesL_ (some 4) rfl rfl Tryd.func68 (by kernel_rfl) rfl #[.int .i64 1, .int .i64 2, .int .i64 6, .int .i64 30, .int .i64 (-1)] rfl (by (try simp only [List.map_toArray, List.map_cons, List.map_nil]); first | done | rfl | (simp only [List.length_drop, List.length_take]; rfl)) ?_; (with_reducible refine (wishbooklaw10_line.calls 1 2 6 30 (-1) t184 t185 t186 t187 t188 _ A3.out).mono ?_); rintro e w14 ⟨rfl, hb⟩; refine ⟨_, rfl, ?_⟩; have n0_ := Aside0.mk (Kd.R_below (by (with_reducible repeat (first | apply Kd.R_alloc | apply Kd.R_drewN | apply Kd.R_drew)); exact HO173.out) hb); have n1_ := Aside0.mk (blk_below (g := gb170) (o := .cells #[.slice none 0 0, .slice none 0 0, .slice none 0 0] 26 (0, 0)) (by (with_reducible repeat (first | refine blk_drewN ?_ _ | refine blk_drew ?_ | refine blk_alloc ?_ _)); exact BK170.out) hb); have n2_ := Aside0.mk (below_step (by repeat (first | (with_reducible first | exact HB.out | apply below_alloc | apply pw_below_drewN | apply below_drew1 | refine below_set ?_ GE170.out) | exact HB.out)) hb); clear HO173; clear BK170; clear HB; have HO173 := n0_; have BK170 := n1_; have HB := n2_; clear n0_ n1_ n2_; (try clear hb); (try clear hb2); (try clear hk); (try clear hi)) | ((with_reducible refine gate_callee (f := 68) rfl ?_); refine goesL_ (some 5) rfl rfl Tryd.func68 (by kernel_rfl) rfl #[.int .i64 2, .int .i64 2, .int .i64 5, .int .i64 15, .int .i64 (-1)] rfl (by (try simp only [List.map_toArray, List.map_cons, List.map_nil]); first | done | rfl | (simp only [List.length_drop, List.length_take]; rfl)) ?_; (with_reducible refine (wishbooklaw10_line.calls 2 2 5 15 (-1) t189 t190 t191 t192 t193 _ A4.out).mono ?_); rintro e w15 ⟨rfl, hb⟩; refine ⟨_, rfl, ?_⟩; have n0_ := Aside0.mk (Kd.R_below (by (with_reducible repeat (first | apply Kd.R_alloc | apply Kd.R_drewN | apply Kd.R_drew)); exact HO173.out) hb); have n1_ := Aside0.mk (blk_below (g := gb170) (o := .cells #[.slice none 0 0, .slice none 0 0, .slice none 0 0] 26 (0, 0)) (by (with_reducible repeat (first | refine blk_drewN ?_ _ | refine blk_drew ?_ | refine blk_alloc ?_ _)); exact BK170.out) hb); have n2_ := Aside0.mk (below_step (by repeat (first | (with_reducible first | exact HB.out | apply below_alloc | apply pw_below_drewN | apply below_drew1 | refine below_set ?_ GE170.out) | exact HB.out)) hb); clear HO173; clear BK170; clear HB; have HO173 := n0_; have BK170 := n1_; have HB := n2_; clear n0_ n1_ n2_; (try clear hb); (try clear hb2); (try clear hk); (try clear hi)) | ((with_reducible refine gate_callee (f := 68) rfl ?_); refine goesL_ (some 6) rfl rfl Tryd.func68 (by kernel_rfl) rfl #[.int .i64 2, .int .i64 0, .int .i64 2, .int .i64 40, .int .i64 (-1)] rfl (by (try simp only [List.map_toArray, List.map_cons, List.map_nil]); first | done | rfl | (simp only [List.length_drop, List.length_take]; rfl)) ?_; (with_reducible refine (wishbooklaw10_line.calls 2 0 2 40 (-1) t194 t195 t196 t197 t198 _ A5.out).mono ?_); rintro e w16 ⟨rfl, hb⟩; refine ⟨_, rfl, ?_⟩; have n0_ := Aside0.mk (Kd.R_below (by (with_reducible repeat (first | apply Kd.R_alloc | apply Kd.R_drewN | apply Kd.R_drew)); exact HO173.out) hb); have n1_ := Aside0.mk (blk_below (g := gb170) (o := .cells #[.slice none 0 0, .slice none 0 0, .slice none 0 0] 26 (0, 0)) (by (with_reducible repeat (first | refine blk_drewN ?_ _ | refine blk_drew ?_ | refine blk_alloc ?_ _)); exact BK170.out) hb); have n2_ := Aside0.mk (below_step (by repeat (first | (with_reducible first | exact HB.out | apply below_alloc | apply pw_below_drewN | apply below_drew1 | refine below_set ?_ GE170.out) | exact HB.out)) hb); clear HO173; clear BK170; clear HB; have HO173 := n0_; have BK170 := n1_; have HB := n2_; clear n0_ n1_ n2_; (try clear hb); (try clear hb2); (try clear hk); (try clear hi)) | ((with_reducible refine gate_dst (N := 7) rfl ?_); refine Kd.R_lit k47 _ 47 ?hg (N := 7) ?hd (xs := ([(⟨t174, t175, t176, t177, t178⟩ : S47), (⟨t179, t180, t181, t182, t183⟩ : S47), (⟨t184, t185, t186, t187, t188⟩ : S47), (⟨t189, t190, t191, t192, t193⟩ : S47), (⟨t194, t195, t196, t197, t198⟩ : S47)] : List (S47))) (inner := [.int .i64 t174, .int .i64 t175, .int .i64 t176, .int .i64 t177, .int .i64 t178, .int .i64 t179, .int .i64 t180, .int .i64 t181, .int .i64 t182, .int .i64 t183, .int .i64 t184, .int .i64 t185, .int .i64 t186, .int .i64 t187, .int .i64 t188, .int .i64 t189, .int .i64 t190, .int .i64 t191, .int .i64 t192, .int .i64 t193, .int .i64 t194, .int .i64 t195, .int .i64 t196, .int .i64 t197, .int .i64 t198]) (ok := fun _ => True) (okp := fun _ => True) ?hr ?hp (fun _ hk => hk) trivial (Below.refl _ _) (Nat.le_refl _) (by simp) ?_; (case hd => rfl); (case hg => rfl); (case hr => first | (go_simp; done) | (go_simp; rfl)); (case hp => exact (Reps.c5 (show Kd.M k47 _ _ _ (⟨t174, t175, t176, t177, t178⟩ : S47) [.int .i64 t174, .int .i64 t175, .int .i64 t176, .int .i64 t177, .int .i64 t178] from (k47_mkM _ _ _ (⟨t174, t175, t176, t177, t178⟩ : S47) )) (Reps.c5 (show Kd.M k47 _ _ _ (⟨t179, t180, t181, t182, t183⟩ : S47) [.int .i64 t179, .int .i64 t180, .int .i64 t181, .int .i64 t182, .int .i64 t183] from (k47_mkM _ _ _ (⟨t179, t180, t181, t182, t183⟩ : S47) )) (Reps.c5 (show Kd.M k47 _ _ _ (⟨t184, t185, t186, t187, t188⟩ : S47) [.int .i64 t184, .int .i64 t185, .int .i64 t186, .int .i64 t187, .int .i64 t188] from (k47_mkM _ _ _ (⟨t184, t185, t186, t187, t188⟩ : S47) )) (Reps.c5 (show Kd.M k47 _ _ _ (⟨t189, t190, t191, t192, t193⟩ : S47) [.int .i64 t189, .int .i64 t190, .int .i64 t191, .int .i64 t192, .int .i64 t193] from (k47_mkM _ _ _ (⟨t189, t190, t191, t192, t193⟩ : S47) )) (Reps.c5 (show Kd.M k47 _ _ _ (⟨t194, t195, t196, t197, t198⟩ : S47) [.int .i64 t194, .int .i64 t195, .int .i64 t196, .int .i64 t197, .int .i64 t198] from (k47_mkM _ _ _ (⟨t194, t195, t196, t197, t198⟩ : S47) )) (Reps.none _ _))))))); intro v200 w17 ho18 hb hg_ hnew_; clear hg_ hnew_; (first | rw [← Ny199.out] at ho18 | (simp only [Int.reduceToNat] at ho18; rw [← Ny199.out] at ho18)); have n0_ := Aside0.mk (Kd.R_below (by (with_reducible repeat (first | apply Kd.R_alloc | apply Kd.R_drewN | apply Kd.R_drew)); exact HO173.out) hb); have n1_ := Aside0.mk (Kd.R_lower ho18 (below_size (by repeat (first | (with_reducible first | exact HB.out | apply below_alloc | apply pw_below_drewN | apply below_drew1 | refine below_set ?_ GE170.out) | exact HB.out)))); have n2_ := Aside0.mk (blk_below (g := gb170) (o := .cells #[.slice none 0 0, .slice none 0 0, .slice none 0 0] 26 (0, 0)) (by (with_reducible repeat (first | refine blk_drewN ?_ _ | refine blk_drew ?_ | refine blk_alloc ?_ _)); exact BK170.out) hb); have n3_ := Aside0.mk (below_step (by repeat (first | (with_reducible first | exact HB.out | apply below_alloc | apply pw_below_drewN | apply below_drew1 | refine below_set ?_ GE170.out) | exact HB.out)) hb); clear HO173; clear BK170; clear HB; have HO173 := n0_; have HO201 := n1_; have BK170 := n2_; have HB := n3_; clear n0_ n1_ n2_ n3_; clear hb ho18) | ((with_reducible refine gate_callee (f := 39) rfl ?_); refine goesL_ (some 8) rfl rfl Tryd.func39 (by kernel_rfl) rfl #[.int .i64 2, .int .i64 5, .int .i64 12, .int .i64 4, .int .i64 6] rfl (by (try simp only [List.map_toArray, List.map_cons, List.map_nil]); first | done | rfl | (simp only [List.length_drop, List.length_take]; rfl)) ?_; (with_reducible refine (wishbooklaw10_delivery.calls 2 5 12 4 6 t202 t203 t204 t205 t206 _ A6.out).mono ?_); rintro e w19 ⟨rfl, hb⟩; refine ⟨_, rfl, ?_⟩; have n0_ := Aside0.mk (Kd.R_below (by (with_reducible repeat (first | apply Kd.R_alloc | apply Kd.R_drewN | apply Kd.R_drew)); exact HO173.out) hb); have n1_ := Aside0.mk (Kd.R_below (by (with_reducible repeat (first | apply Kd.R_alloc | apply Kd.R_drewN | apply Kd.R_drew)); exact HO201.out) hb); have n2_ := Aside0.mk (blk_below (g := gb170) (o := .cells #[.slice none 0 0, .slice none 0 0, .slice none 0 0] 26 (0, 0)) (by (with_reducible repeat (first | refine blk_drewN ?_ _ | refine blk_drew ?_ | refine blk_alloc ?_ _)); exact BK170.out) hb); have n3_ := Aside0.mk (below_step (by repeat (first | (with_reducible first | exact HB.out | apply below_alloc | apply pw_below_drewN | apply below_drew1 | refine below_set ?_ GE170.out) | exact HB.out)) hb); clear HO173; clear HO201; clear BK170; clear HB; have HO173 := n0_; have HO201 := n1_; have BK170 := n2_; have HB := n3_; clear n0_ n1_ n2_ n3_; (try clear hb); (try clear hb2); (try clear hk); (try clear hi)) | ((with_reducible refine gate_callee (f := 39) rfl ?_); refine goesL_ (some 9) rfl rfl Tryd.func39 (by kernel_rfl) rfl #[.int .i64 2, .int .i64 20, .int .i64 28, .int .i64 3, .int .i64 9] rfl (by (try simp only [List.map_toArray, List.map_cons, List.map_nil]); first | done | rfl | (simp only [List.length_drop, List.length_take]; rfl)) ?_; (with_reducible refine (wishbooklaw10_delivery.calls 2 20 28 3 9 t207 t208 t209 t210 t211 _ A7.out).mono ?_); rintro e w20 ⟨rfl, hb⟩; refine ⟨_, rfl, ?_⟩; have n0_ := Aside0.mk (Kd.R_below (by (with_reducible repeat (first | apply Kd.R_alloc | apply Kd.R_drewN | apply Kd.R_drew)); exact HO173.out) hb); have n1_ := Aside0.mk (Kd.R_below (by (with_reducible repeat (first | apply Kd.R_alloc | apply Kd.R_drewN | apply Kd.R_drew)); exact HO201.out) hb); have n2_ := Aside0.mk (blk_below (g := gb170) (o := .cells #[.slice none 0 0, .slice none 0 0, .slice none 0 0] 26 (0, 0)) (by (with_reducible repeat (first | refine blk_drewN ?_ _ | refine blk_drew ?_ | refine blk_alloc ?_ _)); exact BK170.out) hb); have n3_ := Aside0.mk (below_step (by repeat (first | (with_reducible first | exact HB.out | apply below_alloc | apply pw_below_drewN | apply below_drew1 | refine below_set ?_ GE170.out) | exact HB.out)) hb); clear HO173; clear HO201; clear BK170; clear HB; have HO173 := n0_; have HO201 := n1_; have BK170 := n2_; have HB := n3_; clear n0_ n1_ n2_ n3_; (try clear hb); (try clear hb2); (try clear hk); (try clear hi)) | ((with_reducible refine gate_callee (f := 39) rfl ?_); refine goesL_ (some 10) rfl rfl Tryd.func39 (by kernel_rfl) rfl #[.int .i64 0, .int .i64 30, .int .i64 35, .int .i64 1, .int .i64 1] rfl (by (try simp only [List.map_toArray, List.map_cons, List.map_nil]); first | done | rfl | (simp only [List.length_drop, List.length_take]; rfl)) ?_; (with_reducible refine (wishbooklaw10_delivery.calls 0 30 35 1 1 t212 t213 t214 t215 t216 _ A8.out).mono ?_); rintro e w21 ⟨rfl, hb⟩; refine ⟨_, rfl, ?_⟩; have n0_ := Aside0.mk (Kd.R_below (by (with_reducible repeat (first | apply Kd.R_alloc | apply Kd.R_drewN | apply Kd.R_drew)); exact HO173.out) hb); have n1_ := Aside0.mk (Kd.R_below (by (with_reducible repeat (first | apply Kd.R_alloc | apply Kd.R_drewN | apply Kd.R_drew)); exact HO201.out) hb); have n2_ := Aside0.mk (blk_below (g := gb170) (o := .cells #[.slice none 0 0, .slice none 0 0, .slice none 0 0] 26 (0, 0)) (by (with_reducible repeat (first | refine blk_drewN ?_ _ | refine blk_drew ?_ | refine blk_alloc ?_ _)); exact BK170.out) hb); have n3_ := Aside0.mk (below_step (by repeat (first | (with_reducible first | exact HB.out | apply below_alloc | apply pw_below_drewN | apply below_drew1 | refine below_set ?_ GE170.out) | exact HB.out)) hb); clear HO173; clear HO201; clear BK170; clear HB; have HO173 := n0_; have HO201 := n1_; have BK170 := n2_; have HB := n3_; clear n0_ n1_ n2_ n3_; (try clear hb); (try clear hb2); (try clear hk); (try clear hi)) | ((with_reducible refine gate_dst (N := 11) rfl ?_); refine Kd.R_lit k57 _ 57 ?hg (N := 11) ?hd (xs := ([(⟨t202, (⟨t203, t204⟩ : S55), (⟨t205, t206⟩ : S55)⟩ : S57), (⟨t207, (⟨t208, t209⟩ : S55), (⟨t210, t211⟩ : S55)⟩ : S57), (⟨t212, (⟨t213, t214⟩ : S55), (⟨t215, t216⟩ : S55)⟩ : S57)] : List (S57))) (inner := [.int .i64 t202, .int .i64 t203, .int .i64 t204, .int .i64 t205, .int .i64 t206, .int .i64 t207, .int .i64 t208, .int .i64 t209, .int .i64 t210, .int .i64 t211, .int .i64 t212, .int .i64 t213, .int .i64 t214, .int .i64 t215, .int .i64 t216]) (ok := fun _ => True) (okp := fun _ => True) ?hr ?hp (fun _ hk => hk) trivial (Below.refl _ _) (Nat.le_refl _) (by simp) ?_; (case hd => rfl); (case hg => rfl); (case hr => first | (go_simp; done) | (go_simp; rfl)); (case hp => exact (Reps.c5 (show Kd.M k57 _ _ _ (⟨t202, (⟨t203, t204⟩ : S55), (⟨t205, t206⟩ : S55)⟩ : S57) [.int .i64 t202, .int .i64 t203, .int .i64 t204, .int .i64 t205, .int .i64 t206] from (k57_mkM _ _ _ (⟨t202, (⟨t203, t204⟩ : S55), (⟨t205, t206⟩ : S55)⟩ : S57) )) (Reps.c5 (show Kd.M k57 _ _ _ (⟨t207, (⟨t208, t209⟩ : S55), (⟨t210, t211⟩ : S55)⟩ : S57) [.int .i64 t207, .int .i64 t208, .int .i64 t209, .int .i64 t210, .int .i64 t211] from (k57_mkM _ _ _ (⟨t207, (⟨t208, t209⟩ : S55), (⟨t210, t211⟩ : S55)⟩ : S57) )) (Reps.c5 (show Kd.M k57 _ _ _ (⟨t212, (⟨t213, t214⟩ : S55), (⟨t215, t216⟩ : S55)⟩ : S57) [.int .i64 t212, .int .i64 t213, .int .i64 t214, .int .i64 t215, .int .i64 t216] from (k57_mkM _ _ _ (⟨t212, (⟨t213, t214⟩ : S55), (⟨t215, t216⟩ : S55)⟩ : S57) )) (Reps.none _ _))))); intro v218 w22 ho23 hb hg_ hnew_; clear hg_ hnew_; (first | rw [← Ny217.out] at ho23 | (simp only [Int.reduceToNat] at ho23; rw [← Ny217.out] at ho23)); have n0_ := Aside0.mk (Kd.R_below (by (with_reducible repeat (first | apply Kd.R_alloc | apply Kd.R_drewN | apply Kd.R_drew)); exact HO173.out) hb); have n1_ := Aside0.mk (Kd.R_below (by (with_reducible repeat (first | apply Kd.R_alloc | apply Kd.R_drewN | apply Kd.R_drew)); exact HO201.out) hb); have n2_ := Aside0.mk (Kd.R_lower ho23 (below_size (by repeat (first | (with_reducible first | exact HB.out | apply below_alloc | apply pw_below_drewN | apply below_drew1 | refine below_set ?_ GE170.out) | exact HB.out)))); have n3_ := Aside0.mk (blk_below (g := gb170) (o := .cells #[.slice none 0 0, .slice none 0 0, .slice none 0 0] 26 (0, 0)) (by (with_reducible repeat (first | refine blk_drewN ?_ _ | refine blk_drew ?_ | refine blk_alloc ?_ _)); exact BK170.out) hb); have n4_ := Aside0.mk (below_step (by repeat (first | (with_reducible first | exact HB.out | apply below_alloc | apply pw_below_drewN | apply below_drew1 | refine below_set ?_ GE170.out) | exact HB.out)) hb); clear HO173; clear HO201; clear BK170; clear HB; have HO173 := n0_; have HO201 := n1_; have HO219 := n2_; have BK170 := n3_; have HB := n4_; clear n0_ n1_ n2_ n3_ n4_; clear hb ho23; obtain ⟨Ao24, co24, eo24⟩ := Kd.R_slice HO219.out; subst eo24; obtain ⟨Ao25, co25, eo25⟩ := Kd.R_slice HO201.out; subst eo25; obtain ⟨Ao26, co26, eo26⟩ := Kd.R_slice HO173.out; subst eo26; have hcz27_0 : w22.cell? ⟨gb170, 0, none⟩ = some (.slice none 0 0) := (blk_cell BK170.out 0).trans rfl; have hcz27_1 : w22.cell? ⟨gb170, 1, none⟩ = some (.slice none 0 0) := (blk_cell BK170.out 1).trans rfl; have hcz27_2 : w22.cell? ⟨gb170, 2, none⟩ = some (.slice none 0 0) := (blk_cell BK170.out 2).trans rfl; have hfz27_0 := blk_frozen BK170.out 0; have hfz27_1 := blk_frozen BK170.out 1; have hfz27_2 := blk_frozen BK170.out 2))
  refine bodyPost_ret (results_cell_row rfl _ _ gb170 26 #[.slice Ao26 y171.length co26, .slice Ao25 y199.length co25, .slice Ao24 y217.length co24] (0, 0) _ rfl (by (with_reducible repeat (first | refine blk_drewN ?_ _ | refine blk_drew ?_ | refine blk_alloc ?_ _)); refine blk_put (cs := #[.slice Ao26 y171.length co26, .slice Ao25 y199.length co25, .slice none 0 0]) ?_ 2 _ rfl; (with_reducible repeat (first | refine blk_drewN ?_ _ | refine blk_drew ?_ | refine blk_alloc ?_ _)); refine blk_put (cs := #[.slice Ao26 y171.length co26, .slice none 0 0, .slice none 0 0]) ?_ 1 _ rfl; (with_reducible repeat (first | refine blk_drewN ?_ _ | refine blk_drew ?_ | refine blk_alloc ?_ _)); refine blk_put (cs := #[.slice none 0 0, .slice none 0 0, .slice none 0 0]) ?_ 0 _ rfl; (with_reducible repeat (first | refine blk_drewN ?_ _ | refine blk_drew ?_ | refine blk_alloc ?_ _)); exact BK170.out) Tryd.underlying26 rfl (by kernel_rfl)) rfl ?_
  exact ⟨_, _, _, by first | rfl | (simp [errW_none, errW_some] <;> rfl) | (simp [*, errW_none, errW_some] <;> rfl), by (with_reducible repeat (first | apply Kd.R_alloc | apply Kd.R_drewN | apply Kd.R_drew)); exact Kd.R_mono (Kd.R_far (p := ⟨gb170, 2, none⟩) (Kd.R_far (p := ⟨gb170, 1, none⟩) (Kd.R_far (p := ⟨gb170, 0, none⟩) (Kd.R_types HO173.out BK170.out (by decide)) (fun _ hk => hk.2) (.slice Ao26 y171.length co26)) (fun _ hk => hk.2) (.slice Ao25 y199.length co25)) (fun _ hk => hk.2) (.slice Ao24 y217.length co24)) (fun _ hk => trivial), by (with_reducible repeat (first | apply Kd.R_alloc | apply Kd.R_drewN | apply Kd.R_drew)); exact Kd.R_mono (Kd.R_far (p := ⟨gb170, 2, none⟩) (Kd.R_far (p := ⟨gb170, 1, none⟩) (Kd.R_far (p := ⟨gb170, 0, none⟩) (Kd.R_types HO201.out BK170.out (by decide)) (fun _ hk => hk.2) (.slice Ao26 y171.length co26)) (fun _ hk => hk.2) (.slice Ao25 y199.length co25)) (fun _ hk => hk.2) (.slice Ao24 y217.length co24)) (fun _ hk => trivial), by (with_reducible repeat (first | apply Kd.R_alloc | apply Kd.R_drewN | apply Kd.R_drew)); exact Kd.R_mono (Kd.R_far (p := ⟨gb170, 2, none⟩) (Kd.R_far (p := ⟨gb170, 1, none⟩) (Kd.R_far (p := ⟨gb170, 0, none⟩) (Kd.R_types HO219.out BK170.out (by decide)) (fun _ hk => hk.2) (.slice Ao26 y171.length co26)) (fun _ hk => hk.2) (.slice Ao25 y199.length co25)) (fun _ hk => hk.2) (.slice Ao24 y217.length co24)) (fun _ hk => trivial), by repeat (first | (with_reducible first | exact HB.out | apply below_alloc | apply pw_below_drewN | apply below_drew1 | refine below_set ?_ GE170.out) | exact HB.out)⟩
def wishbooklaw10_then.f  : Option ((List (S59))) := some (([(⟨6, 5⟩ : S59), (⟨20, 5⟩ : S59), (⟨30, 1⟩ : S59)] : List (S59)))
set_option maxHeartbeats 8000000 in
set_option maxRecDepth 100000 in
theorem wishbooklaw10_then.calls  (r : List (S59)) (w : World) (h : wishbooklaw10_then.f  = some r) :
    Calls Tryd.prog 45 #[] w fun e w' => ∃ v0_ : Value, e = .returned (v0_) ∧ Kd.R k59 59 w' w.heap.size (fun _ => True) v0_ r ∧ Below w.heap.size w w' := by
  have hu59 := Tryd.underlying59
  have HB := Aside0.mk (Below.refl w.heap.size w)
  have H : (some (([(⟨6, 5⟩ : S59), (⟨20, 5⟩ : S59), (⟨30, 1⟩ : S59)] : List (S59)))) = some r := h
  clear h
  obtain ⟨y220, hy220⟩ : ∃ y_ : List (S59), y_ = (([(⟨6, 5⟩ : S59), (⟨20, 5⟩ : S59), (⟨30, 1⟩ : S59)] : List (S59))) := ⟨_, rfl⟩
  replace H : (some y220) = some r := by first | (rw [hy220]; with_reducible exact H) | (have H2_ := (Option.bind_some _ _).symm.trans H; rw [hy220]; with_reducible exact H2_) | (have H2_ := (Option.bind_some _ _).symm.trans H; with_reducible exact H2_) | with_reducible exact H | (rw [hy220]; exact H) | exact H
  have Ny220 := Aside0.mk hy220
  clear hy220
  obtain rfl := Option.some.inj H
  go_enter Tryd.func45, Tryd.ntmps45
  go_wp2_with (first | ((with_reducible refine gate_dst (N := 4) rfl ?_); refine Kd.R_lit k59 _ 59 ?hg (N := 4) ?hd (xs := ([(⟨6, 5⟩ : S59), (⟨20, 5⟩ : S59), (⟨30, 1⟩ : S59)] : List (S59))) (inner := [.int .i64 6, .int .i64 5, .int .i64 20, .int .i64 5, .int .i64 30, .int .i64 1]) (ok := fun _ => True) (okp := fun _ => True) ?hr ?hp (fun _ hk => hk) trivial (Below.refl _ _) (Nat.le_refl _) (by simp) ?_; (case hd => rfl); (case hg => rfl); (case hr => first | (go_simp; done) | (go_simp; rfl)); (case hp => exact (Reps.c2 (show Kd.M k59 _ _ _ (⟨6, 5⟩ : S59) [.int .i64 6, .int .i64 5] from (k59_mkM _ _ _ (⟨6, 5⟩ : S59) )) (Reps.c2 (show Kd.M k59 _ _ _ (⟨20, 5⟩ : S59) [.int .i64 20, .int .i64 5] from (k59_mkM _ _ _ (⟨20, 5⟩ : S59) )) (Reps.c2 (show Kd.M k59 _ _ _ (⟨30, 1⟩ : S59) [.int .i64 30, .int .i64 1] from (k59_mkM _ _ _ (⟨30, 1⟩ : S59) )) (Reps.none _ _))))); intro v221 w1 ho2 hb hg_ hnew_; clear hg_ hnew_; (first | rw [← Ny220.out] at ho2 | (simp only [Int.reduceToNat] at ho2; rw [← Ny220.out] at ho2)); have n0_ := Aside0.mk (Kd.R_lower ho2 (below_size (by repeat (first | (with_reducible first | exact HB.out | apply below_alloc | apply pw_below_drewN | apply below_drew1) | exact HB.out)))); have n1_ := Aside0.mk (below_step (by repeat (first | (with_reducible first | exact HB.out | apply below_alloc | apply pw_below_drewN | apply below_drew1) | exact HB.out)) hb); clear HB; have HO222 := n0_; have HB := n1_; clear n0_ n1_; clear hb ho2))
  go_ret
  exact ⟨_, by first | rfl | (simp [errW_none, errW_some] <;> rfl) | (simp [*, errW_none, errW_some] <;> rfl), by (with_reducible repeat (first | apply Kd.R_alloc | apply Kd.R_drewN | apply Kd.R_drew)); exact HO222.out, by repeat (first | (with_reducible first | exact HB.out | apply below_alloc | apply pw_below_drewN | apply below_drew1) | exact HB.out)⟩
def wishbooklaw10_shares.f  : Option ((List (S49))) := some (([(⟨3, 0, 0, 0⟩ : S49), (⟨2, 2, 0, 0⟩ : S49), (⟨0, 0, 6, 0⟩ : S49), (⟨0, 0, 1, 4⟩ : S49), (⟨0, 0, 1, 1⟩ : S49)] : List (S49)))
set_option maxHeartbeats 8000000 in
set_option maxRecDepth 100000 in
theorem wishbooklaw10_shares.calls  (r : List (S49)) (w : World) (h : wishbooklaw10_shares.f  = some r) :
    Calls Tryd.prog 49 #[] w fun e w' => ∃ v0_ : Value, e = .returned (v0_) ∧ Kd.R k49 49 w' w.heap.size (fun _ => True) v0_ r ∧ Below w.heap.size w w' := by
  have hu49 := Tryd.underlying49
  have HB := Aside0.mk (Below.refl w.heap.size w)
  have H : (some (([(⟨3, 0, 0, 0⟩ : S49), (⟨2, 2, 0, 0⟩ : S49), (⟨0, 0, 6, 0⟩ : S49), (⟨0, 0, 1, 4⟩ : S49), (⟨0, 0, 1, 1⟩ : S49)] : List (S49)))) = some r := h
  clear h
  obtain ⟨y223, hy223⟩ : ∃ y_ : List (S49), y_ = (([(⟨3, 0, 0, 0⟩ : S49), (⟨2, 2, 0, 0⟩ : S49), (⟨0, 0, 6, 0⟩ : S49), (⟨0, 0, 1, 4⟩ : S49), (⟨0, 0, 1, 1⟩ : S49)] : List (S49))) := ⟨_, rfl⟩
  replace H : (some y223) = some r := by first | (rw [hy223]; with_reducible exact H) | (have H2_ := (Option.bind_some _ _).symm.trans H; rw [hy223]; with_reducible exact H2_) | (have H2_ := (Option.bind_some _ _).symm.trans H; with_reducible exact H2_) | with_reducible exact H | (rw [hy223]; exact H) | exact H
  have Ny223 := Aside0.mk hy223
  clear hy223
  obtain rfl := Option.some.inj H
  go_enter Tryd.func49, Tryd.ntmps49
  go_wp2_with (first | ((with_reducible refine gate_dst (N := 6) rfl ?_); refine Kd.R_lit k49 _ 49 ?hg (N := 6) ?hd (xs := ([(⟨3, 0, 0, 0⟩ : S49), (⟨2, 2, 0, 0⟩ : S49), (⟨0, 0, 6, 0⟩ : S49), (⟨0, 0, 1, 4⟩ : S49), (⟨0, 0, 1, 1⟩ : S49)] : List (S49))) (inner := [.int .i64 3, .int .i64 0, .int .i64 0, .int .i64 0, .int .i64 2, .int .i64 2, .int .i64 0, .int .i64 0, .int .i64 0, .int .i64 0, .int .i64 6, .int .i64 0, .int .i64 0, .int .i64 0, .int .i64 1, .int .i64 4, .int .i64 0, .int .i64 0, .int .i64 1, .int .i64 1]) (ok := fun _ => True) (okp := fun _ => True) ?hr ?hp (fun _ hk => hk) trivial (Below.refl _ _) (Nat.le_refl _) (by simp) ?_; (case hd => rfl); (case hg => rfl); (case hr => first | (go_simp; done) | (go_simp; rfl)); (case hp => exact (Reps.c4 (show Kd.M k49 _ _ _ (⟨3, 0, 0, 0⟩ : S49) [.int .i64 3, .int .i64 0, .int .i64 0, .int .i64 0] from (k49_mkM _ _ _ (⟨3, 0, 0, 0⟩ : S49) )) (Reps.c4 (show Kd.M k49 _ _ _ (⟨2, 2, 0, 0⟩ : S49) [.int .i64 2, .int .i64 2, .int .i64 0, .int .i64 0] from (k49_mkM _ _ _ (⟨2, 2, 0, 0⟩ : S49) )) (Reps.c4 (show Kd.M k49 _ _ _ (⟨0, 0, 6, 0⟩ : S49) [.int .i64 0, .int .i64 0, .int .i64 6, .int .i64 0] from (k49_mkM _ _ _ (⟨0, 0, 6, 0⟩ : S49) )) (Reps.c4 (show Kd.M k49 _ _ _ (⟨0, 0, 1, 4⟩ : S49) [.int .i64 0, .int .i64 0, .int .i64 1, .int .i64 4] from (k49_mkM _ _ _ (⟨0, 0, 1, 4⟩ : S49) )) (Reps.c4 (show Kd.M k49 _ _ _ (⟨0, 0, 1, 1⟩ : S49) [.int .i64 0, .int .i64 0, .int .i64 1, .int .i64 1] from (k49_mkM _ _ _ (⟨0, 0, 1, 1⟩ : S49) )) (Reps.none _ _))))))); intro v224 w1 ho2 hb hg_ hnew_; clear hg_ hnew_; (first | rw [← Ny223.out] at ho2 | (simp only [Int.reduceToNat] at ho2; rw [← Ny223.out] at ho2)); have n0_ := Aside0.mk (Kd.R_lower ho2 (below_size (by repeat (first | (with_reducible first | exact HB.out | apply below_alloc | apply pw_below_drewN | apply below_drew1) | exact HB.out)))); have n1_ := Aside0.mk (below_step (by repeat (first | (with_reducible first | exact HB.out | apply below_alloc | apply pw_below_drewN | apply below_drew1) | exact HB.out)) hb); clear HB; have HO225 := n0_; have HB := n1_; clear n0_ n1_; clear hb ho2))
  go_ret
  exact ⟨_, by first | rfl | (simp [errW_none, errW_some] <;> rfl) | (simp [*, errW_none, errW_some] <;> rfl), by (with_reducible repeat (first | apply Kd.R_alloc | apply Kd.R_drewN | apply Kd.R_drew)); exact HO225.out, by repeat (first | (with_reducible first | exact HB.out | apply below_alloc | apply pw_below_drewN | apply below_drew1) | exact HB.out)⟩
end Go.Proofs.YtegpepnmnlockaaDoor.PL
namespace Go.Proofs.YtegpepnmnlockaaDoor.PL
open Go.RowKit Go.Proofs.YtegpepnmnlockaaDoorW.PrintWords Go.Proofs.YtegpepnmnlockaaDoorW.PrintLast Go.Proofs.YtegpepnmnlockaaDoorW.PrintMore
set_option linter.unusedVariables false
set_option linter.unusedSimpArgs false
/-- Is a line's turn no later than another's? -/
def turnLe (l1 : List S47) (i line : Nat) : Prop := (rd_T47 l1 i).f3 < (rd_T47 l1 line).f3 ∨ ((rd_T47 l1 i).f3 = (rd_T47 l1 line).f3 ∧ i ≤ line)
instance (l1 : List S47) (i line : Nat) : Decidable (turnLe l1 i line) := by unfold turnLe; infer_instance
/-- What is listed of a good for the first n lines whose turn is no later than a line's. -/
def needG (l1 : List S47) (sh : List S49) (line : Nat) : Nat → Int
  | 0 => 0
  | i + 1 => needG l1 sh line i + if (rd_T47 l1 i).f1 = (rd_T47 l1 line).f1 ∧ turnLe l1 i line then (rd_T49 sh i).f2 else 0
theorem sumTo_perm (f : Nat → Int) {xs ys : List Nat} (h : xs.Perm ys) : sumTo f xs = sumTo f ys := by
  induction h with
  | nil => rfl
  | cons x _ ih => rw [sumTo, sumTo, ih]
  | swap x y l => simp only [sumTo]; omega
  | trans _ _ ih1 ih2 => exact ih1.trans ih2
theorem cfL_not (l1 : List S47) (line i : Nat) : (!decide (cfL l1 line i < 0)) = decide (turnLe l1 i line) := by
  by_cases h : turnLe l1 i line
  · rw [decide_eq_true h, decide_eq_false (fun hh => by
      rw [cfL_lt] at hh
      unfold turnLe at h
      omega)]
    rfl
  · rw [decide_eq_false h, decide_eq_true ((cfL_lt l1 line i).2 (by unfold turnLe at h; omega))]
    rfl
theorem sum_need (l1 : List S47) (sh : List S49) (line : Nat) (hs : ∀ i : Nat, 0 ≤ (rd_T49 sh i).f2) : ∀ n, sumTo (fun i => (rd_T49 sh (i : Nat)).f2) ((candF l1 sh (rd_T47 l1 line).f1 n).filter fun i => decide (turnLe l1 i line)) = needG l1 sh line n
  | 0 => rfl
  | n + 1 => by
    have ih := sum_need l1 sh line hs n
    have h0 := hs n
    rw [candF_succ, List.filter_append, sumTo_append, ih, needG]
    congr 1
    by_cases c1 : (rd_T47 l1 n).f1 = (rd_T47 l1 line).f1
    · by_cases c2 : 0 < (rd_T49 sh n).f2
      · rw [if_pos (by simp [c1, c2])]
        by_cases c3 : turnLe l1 n line
        · rw [if_pos ⟨c1, c3⟩]
          simp [c3, sumTo]
        · rw [if_neg (fun h => c3 h.2)]
          simp [c3, sumTo]
      · rw [if_neg (by simp [c1]; omega)]
        have e : (rd_T49 sh n).f2 = 0 := by omega
        rw [e]
        simp [sumTo]
    · rw [if_neg (by simp [c1]), if_neg (fun h => c1 h.1)]
      rfl
theorem need_plain (l1 : List S47) (sh : List S49) (line : Nat) (hs : ∀ i : Nat, 0 ≤ (rd_T49 sh i).f2) (hline : line < l1.length) (hls : 0 < (rd_T49 sh line).f2) : needF l1 sh line = needG l1 sh line l1.length := by
  have hmem : line ∈ candF l1 sh (rd_T47 l1 line).f1 l1.length := candF_mem.2 ⟨hline, rfl, hls⟩
  have hperm : (waitL l1 sh (rd_T47 l1 line).f1).Perm (candF l1 sh (rd_T47 l1 line).f1 l1.length) := List.mergeSort_perm _ _
  have hnd : (waitL l1 sh (rd_T47 l1 line).f1).Nodup := hperm.nodup_iff.2 (by unfold candF; exact List.Pairwise.filter _ List.nodup_range)
  have hsort : (waitL l1 sh (rd_T47 l1 line).f1).Pairwise fun x y => (!decide (cfL l1 y x < 0)) = true := by
    unfold waitL
    refine List.pairwise_mergeSort (fun a b c h1 h2 => ?_) (fun a b => ?_) _
    · rw [cfL_not, decide_eq_true_eq] at *
      unfold turnLe at *
      omega
    · rw [cfL_not, cfL_not, Bool.or_eq_true, decide_eq_true_eq, decide_eq_true_eq]
      unfold turnLe
      omega
  obtain ⟨pre, rest, he⟩ := List.append_of_mem (hperm.mem_iff.2 hmem)
  rw [he] at hsort hnd
  have hnp : line ∉ pre := fun h => by
    have := (List.nodup_append.1 hnd).2.2 line h line (by simp)
    exact this rfl
  unfold needF
  rw [he, needTo_prefix _ _ _ _ hnp, ← sum_need l1 sh line hs, ← sumTo_perm _ (hperm.filter _), he]
  congr 1
  rw [List.filter_append]
  have h1 : pre.filter (fun i => decide (turnLe l1 i line)) = pre := by
    rw [List.filter_eq_self]
    intro a ha
    have := (List.pairwise_append.1 hsort).2.2 a ha line (by simp)
    rwa [cfL_not] at this
  have h2 : (line :: rest).filter (fun i => decide (turnLe l1 i line)) = [line] := by
    rw [List.filter_cons, if_pos (decide_eq_true (show turnLe l1 line line from Or.inr ⟨rfl, Nat.le_refl _⟩))]
    congr 1
    rw [List.filter_eq_nil_iff]
    intro a ha hh
    have hp := (List.pairwise_cons.1 (List.pairwise_append.1 hsort).2.1).1 a ha
    rw [cfL_not] at hp
    have hq := of_decide_eq_true hp
    have hh := of_decide_eq_true hh
    have hne : a ≠ line := fun e => by
      have := (List.nodup_cons.1 (List.nodup_append.1 hnd).2.1).1
      rw [e] at ha
      exact this ha
    unfold turnLe at hq hh
    omega
  rw [h1, h2]
theorem there_plain (l1 : List S47) (l2 : List S57) (sh : List S49) (line : Nat) (l3 : List S59) (hs : ∀ i : Nat, 0 ≤ (rd_T49 sh i).f2) (hline : line < l1.length) (hls : 0 < (rd_T49 sh line).f2) :
    thereF l1 l2 sh line l3 = dayF (fun d => cameBy l2 l3 (rd_T47 l1 line).f1 d l3.length) (needG l1 sh line l1.length) 101 0 := by
  unfold thereF
  rw [need_plain l1 sh line hs hline hls]
end Go.Proofs.YtegpepnmnlockaaDoor.PL
namespace Go.Proofs.YtegpepnmnlockaaDoor.PL
open Go.RowKit Go.Proofs.YtegpepnmnlockaaDoorW.PrintWords Go.Proofs.YtegpepnmnlockaaDoorW.PrintLast Go.Proofs.YtegpepnmnlockaaDoorW.PrintMore
set_option linter.unusedVariables false
set_option linter.unusedSimpArgs false
/-- The chapter's book. -/
def bk0 : List Int := [5, 2, 0]
def bk1 : List S47 := [⟨0, 0, 3, 10, -1⟩, ⟨0, 1, 4, 20, 0⟩, ⟨1, 2, 6, 30, -1⟩, ⟨2, 2, 5, 15, -1⟩, ⟨2, 0, 2, 40, -1⟩]
def bk2 : List S57 := [⟨2, ⟨5, 12⟩, ⟨4, 6⟩⟩, ⟨2, ⟨20, 28⟩, ⟨3, 9⟩⟩, ⟨0, ⟨30, 35⟩, ⟨1, 1⟩⟩]
def bkt : List S59 := [⟨6, 5⟩, ⟨20, 5⟩, ⟨30, 1⟩]
def bks : List S49 := [⟨3, 0, 0, 0⟩, ⟨2, 2, 0, 0⟩, ⟨0, 0, 6, 0⟩, ⟨0, 0, 1, 4⟩, ⟨0, 0, 1, 1⟩]
def bkp : List Int := [1, 0, 7]
def bkq : List Int := [1, 0, 4]
def bkw : List Int := [0]
def bkl : List Int := [0, 0, 0]
def bkb : List Int := [2, 3]
theorem book_val : wishbooklaw10_book.f = some (bk0, bk1, bk2) := by kernel_rfl
theorem then_val : wishbooklaw10_then.f = some bkt := by kernel_rfl
theorem shares_val : wishbooklaw10_shares.f = some bks := by kernel_rfl
theorem surely_val : lack_Surely.f bk0 bk1 bk2 2 28 = some (7, 0) := by kernel_rfl
theorem sharesL_val : lack_Shares.f bk0 bk1 bk2 = some (bks, 0) := by kernel_rfl
theorem missing_val : lack_Missing.f bk0 bk1 bk2 = some (bkp, bkq, 0) := by kernel_rfl
theorem whole_val : lack_Whole.f bk0 bk1 bk2 = some (bkw, 0) := by kernel_rfl
theorem left_val : lack_Left.f bk0 bk1 bk2 = some (bkl, 0) := by kernel_rfl
theorem bk_ok : okB bk0 bk1 bk2 = true := by kernel_rfl
theorem come_val : lack_Come.f bk0 bk1 bk2 2 bkt = some (20, 0) := by
  have h : lack_Come.f bk0 bk1 bk2 2 bkt = some (thereF bk1 bk2 (servF bk0 bk1 bk2).2 2 bkt, 0) := by kernel_rfl
  have hp : 0 < (rd_T49 (servF bk0 bk1 bk2).2 (2 : Nat)).f2 := of_decide_eq_true (by kernel_rfl)
  have hv : dayF (fun d => cameBy bk2 bkt (rd_T47 bk1 (2 : Nat)).f1 d bkt.length) (needG bk1 (servF bk0 bk1 bk2).2 2 bk1.length) 101 0 = 20 := by kernel_rfl
  exact h.trans (congrArg (fun x => some (x, (0 : Int))) ((there_plain bk1 bk2 _ 2 bkt (fun i => (share_bd (servF_ok bk_ok).2 i).1) (by decide) hp).trans hv))
theorem last_val : lack_Last.f bk0 bk1 bk2 2 = some (28, 0) := by
  have h : lack_Last.f bk0 bk1 bk2 2 = some (thereF bk1 bk2 (servF bk0 bk1 bk2).2 2 (lastCame bk2), 0) := by kernel_rfl
  have hp : 0 < (rd_T49 (servF bk0 bk1 bk2).2 (2 : Nat)).f2 := of_decide_eq_true (by kernel_rfl)
  have hv : dayF (fun d => cameBy bk2 (lastCame bk2) (rd_T47 bk1 (2 : Nat)).f1 d (lastCame bk2).length) (needG bk1 (servF bk0 bk1 bk2).2 2 bk1.length) 101 0 = 28 := by kernel_rfl
  exact h.trans (congrArg (fun x => some (x, (0 : Int))) ((there_plain bk1 bk2 _ 2 (lastCame bk2) (fun i => (share_bd (servF_ok bk_ok).2 i).1) (by decide) hp).trans hv))
theorem late_val : lack_Late.f bk0 bk1 bk2 0 = some (3, 0) := by kernel_rfl
theorem broken_val : lack_Broken.f bk0 bk1 bk2 1 = some (bkb, 0) := by kernel_rfl
theorem same_val : wishbookref10_SameShares.f 20 bks bks = some true := by kernel_rfl
theorem matchp_val : wishbookref00_Match.f 20 bkp bkp = some true := by kernel_rfl
theorem matchq_val : wishbookref00_Match.f 20 bkq bkq = some true := by kernel_rfl
theorem matchw_val : wishbookref00_Match.f 20 bkw bkw = some true := by kernel_rfl
theorem matchl_val : wishbookref00_Match.f 20 bkl bkl = some true := by kernel_rfl
theorem matchb_val : wishbookref00_Match.f 20 bkb bkb = some true := by kernel_rfl
/-- The chapter's book, read. -/
def BookC (w : World) (A0 A1 A2 : Option Addr) (c0 c1 c2 : Nat) : Prop := Kd.C (Kd.int .i64) w A0 bk0.length bk0 ∧ bk0.length ≤ c0 ∧ Kd.C k47 w A1 bk1.length bk1 ∧ bk1.length ≤ c1 ∧ Kd.C k57 w A2 bk2.length bk2 ∧ bk2.length ≤ c2
theorem book_calls (w : World) : Calls Tryd.prog 43 #[] w fun e w' => ∃ A0 c0 A1 c1 A2 c2, e = .returned (.agg #[.slice A0 bk0.length c0, .slice A1 bk1.length c1, .slice A2 bk2.length c2]) ∧ BookC w' A0 A1 A2 c0 c1 c2 ∧ Below w.heap.size w w' :=
  (wishbooklaw10_book.calls bk0 bk1 bk2 w book_val).mono fun e w' ⟨v0, v1, v2, he, h0, h1, h2, hb⟩ => by
    obtain ⟨A0, c0, rfl, g0, r0⟩ := Kd.R_reads h0
    obtain ⟨A1, c1, rfl, g1, r1⟩ := Kd.R_reads h1
    obtain ⟨A2, c2, rfl, g2, r2⟩ := Kd.R_reads h2
    exact ⟨A0, c0, A1, c1, A2, c2, he, ⟨r0, g0, r1, g1, r2, g2⟩, hb⟩
theorem same_calls (A B : Option Addr) (c d : Nat) (W : World) (h1 : Kd.C k49 W A bks.length bks) (g1 : bks.length ≤ c) (h2 : Kd.C k49 W B bks.length bks) (g2 : bks.length ≤ d) :
    Calls Tryd.prog 37 #[.slice A bks.length c, .slice B bks.length d] W fun e w' => e = .returned (.bool true) ∧ Below W.heap.size W w' :=
  (wishbookref10_SameShares.calls 20 A c bks B d bks true W h1 g1 h2 g2 same_val).mono fun e w' ⟨he, nd, hw⟩ => ⟨he, by rw [hw]; exact pw_below_drewN (Below.refl _ _) nd⟩
theorem match_calls (A : Option Addr) (c p n : Nat) (xs : List Int) (W : World) (h1 : Kd.C (Kd.int .i64) W A xs.length xs) (g1 : xs.length ≤ c) (hp : W.heap[p]? = some (.cells (nums .i64 xs).toArray 3 (0, 0))) (hn : xs.length = n) (hm : n ≤ 1000) (hv : wishbookref00_Match.f 20 xs xs = some true) :
    Calls Tryd.prog 16 #[.slice A xs.length c, .slice (some ⟨p, 0, none⟩) n n] W fun e w' => e = .returned (.bool true) ∧ Below W.heap.size W w' := by
  have hV := Kd.V_reads' (nums_V (base := 0) hp hn (Nat.zero_le _) hm)
  subst hn
  exact (wishbookref00_Match.calls 20 A c xs (some ⟨p, 0, none⟩) xs.length xs true W h1 g1 hV.2.2 hV.2.1 hv).mono fun e w' ⟨he, nd, hw⟩ => ⟨he, by rw [hw]; exact pw_below_drewN (Below.refl _ _) nd⟩
def wishbooklaw10_listed.f : Option Bool := some true
set_option maxHeartbeats 8000000 in
set_option maxRecDepth 100000 in
theorem wishbooklaw10_listed.calls (r : Bool) (w : World) (hfa : Fates w) (h : wishbooklaw10_listed.f = some r) :
    Calls Tryd.prog 19 #[] w fun e w' => e = .returned (.bool r) ∧ Below w.heap.size w w' := by
  cases h
  have HFA := Aside0.mk hfa
  clear hfa
  have HB := Aside0.mk (Below.refl w.heap.size w)
  go_enter Tryd.func19, Tryd.ntmps19
  go_wp2_with (fail)
  refine (book_calls _).mono ?_
  rintro e w1 ⟨A0, c0, A1, c1, A2, c2, rfl, hbc, hb⟩
  have HB_ := Aside0.mk (below_step HB.out hb)
  clear HB hb
  have HB := HB_
  clear HB_
  have HC := Aside0.mk hbc
  clear hbc
  go_wp2_with (fail)
  refine (lack_Surely.calls A0 c0 bk0 A1 c1 bk1 A2 c2 bk2 2 28 7 0 _ HC.out.1 HC.out.2.1 HC.out.2.2.1 HC.out.2.2.2.1 HC.out.2.2.2.2.1 HC.out.2.2.2.2.2 (Fates.below HFA.out HB.out) surely_val).mono ?_
  rintro e w2 ⟨rfl, hb⟩
  have HB_ := Aside0.mk (below_step HB.out hb)
  clear HB hb
  have HB := HB_
  clear HB_
  clear HC
  go_wp2_with (fail)
  refine (book_calls _).mono ?_
  rintro e w1 ⟨A0, c0, A1, c1, A2, c2, rfl, hbc, hb⟩
  have HB_ := Aside0.mk (below_step HB.out hb)
  clear HB hb
  have HB := HB_
  clear HB_
  have HC := Aside0.mk hbc
  clear hbc
  go_wp2_with (fail)
  refine (lack_Shares.calls A0 c0 bk0 A1 c1 bk1 A2 c2 bk2 bks 0 _ HC.out.1 HC.out.2.1 HC.out.2.2.1 HC.out.2.2.2.1 HC.out.2.2.2.2.1 HC.out.2.2.2.2.2 (Fates.below HFA.out HB.out) sharesL_val).mono ?_
  rintro e w2 ⟨s, rfl, hs, hb⟩
  have HB_ := Aside0.mk (below_step HB.out hb)
  clear HB hb
  have HB := HB_
  clear HB_
  obtain ⟨As, cs, rfl⟩ := Kd.V_slice hs
  have HVs := Aside0.mk hs
  clear hs
  clear HC
  go_wp2_with (fail)
  refine (book_calls _).mono ?_
  rintro e w1 ⟨A0, c0, A1, c1, A2, c2, rfl, hbc, hb⟩
  have HVs_ := Aside0.mk (Kd.V_below HVs.out hb)
  clear HVs
  have HVs := HVs_
  clear HVs_
  have HB_ := Aside0.mk (below_step HB.out hb)
  clear HB hb
  have HB := HB_
  clear HB_
  have HC := Aside0.mk hbc
  clear hbc
  go_wp2_with (fail)
  refine (lack_Missing.calls A0 c0 bk0 A1 c1 bk1 A2 c2 bk2 bkp bkq 0 _ HC.out.1 HC.out.2.1 HC.out.2.2.1 HC.out.2.2.2.1 HC.out.2.2.2.2.1 HC.out.2.2.2.2.2 (Fates.below HFA.out HB.out) missing_val).mono ?_
  rintro e w2 ⟨p, q, rfl, hp, hq, hb⟩
  have HVs_ := Aside0.mk (Kd.V_below HVs.out hb)
  clear HVs
  have HVs := HVs_
  clear HVs_
  have HB_ := Aside0.mk (below_step HB.out hb)
  clear HB hb
  have HB := HB_
  clear HB_
  obtain ⟨Ap, cp, rfl⟩ := Kd.V_slice hp
  have HVp := Aside0.mk hp
  clear hp
  obtain ⟨Aq, cq, rfl⟩ := Kd.V_slice hq
  have HVq := Aside0.mk hq
  clear hq
  clear HC
  go_wp2_with (fail)
  refine (book_calls _).mono ?_
  rintro e w1 ⟨A0, c0, A1, c1, A2, c2, rfl, hbc, hb⟩
  have HVs_ := Aside0.mk (Kd.V_below HVs.out hb)
  clear HVs
  have HVs := HVs_
  clear HVs_
  have HVp_ := Aside0.mk (Kd.V_below HVp.out hb)
  clear HVp
  have HVp := HVp_
  clear HVp_
  have HVq_ := Aside0.mk (Kd.V_below HVq.out hb)
  clear HVq
  have HVq := HVq_
  clear HVq_
  have HB_ := Aside0.mk (below_step HB.out hb)
  clear HB hb
  have HB := HB_
  clear HB_
  have HC := Aside0.mk hbc
  clear hbc
  go_wp2_with (fail)
  refine (lack_Whole.calls A0 c0 bk0 A1 c1 bk1 A2 c2 bk2 bkw 0 _ HC.out.1 HC.out.2.1 HC.out.2.2.1 HC.out.2.2.2.1 HC.out.2.2.2.2.1 HC.out.2.2.2.2.2 (Fates.below HFA.out HB.out) whole_val).mono ?_
  rintro e w2 ⟨v, rfl, hv, hb⟩
  have HVs_ := Aside0.mk (Kd.V_below HVs.out hb)
  clear HVs
  have HVs := HVs_
  clear HVs_
  have HVp_ := Aside0.mk (Kd.V_below HVp.out hb)
  clear HVp
  have HVp := HVp_
  clear HVp_
  have HVq_ := Aside0.mk (Kd.V_below HVq.out hb)
  clear HVq
  have HVq := HVq_
  clear HVq_
  have HB_ := Aside0.mk (below_step HB.out hb)
  clear HB hb
  have HB := HB_
  clear HB_
  obtain ⟨Av, cv, rfl⟩ := Kd.V_slice hv
  have HVv := Aside0.mk hv
  clear hv
  clear HC
  go_wp2_with (fail)
  refine (wishbooklaw10_shares.calls bks _ shares_val).mono ?_
  rintro e w3 ⟨v3, rfl, ho3, hb⟩
  have HVs_ := Aside0.mk (Kd.V_below HVs.out hb)
  clear HVs
  have HVs := HVs_
  clear HVs_
  have HVp_ := Aside0.mk (Kd.V_below HVp.out hb)
  clear HVp
  have HVp := HVp_
  clear HVp_
  have HVq_ := Aside0.mk (Kd.V_below HVq.out hb)
  clear HVq
  have HVq := HVq_
  clear HVq_
  have HVv_ := Aside0.mk (Kd.V_below HVv.out hb)
  clear HVv
  have HVv := HVv_
  clear HVv_
  have HB_ := Aside0.mk (below_step HB.out hb)
  clear HB hb
  have HB := HB_
  clear HB_
  obtain ⟨A3, c3, rfl, g3, r3⟩ := Kd.R_reads ho3
  clear ho3
  go_wp2_with (fail)
  refine (same_calls As A3 cs c3 _ (Kd.V_reads' HVs.out).2.2 (Kd.V_reads' HVs.out).2.1 r3 g3).mono ?_
  rintro e w4 ⟨rfl, hb⟩
  have HVs_ := Aside0.mk (Kd.V_below HVs.out hb)
  clear HVs
  have HVs := HVs_
  clear HVs_
  have HVp_ := Aside0.mk (Kd.V_below HVp.out hb)
  clear HVp
  have HVp := HVp_
  clear HVp_
  have HVq_ := Aside0.mk (Kd.V_below HVq.out hb)
  clear HVq
  have HVq := HVq_
  clear HVq_
  have HVv_ := Aside0.mk (Kd.V_below HVv.out hb)
  clear HVv
  have HVv := HVv_
  clear HVv_
  have HB_ := Aside0.mk (below_step HB.out hb)
  clear HB hb
  have HB := HB_
  clear HB_
  clear HVs
  go_wp2_with (fail)
  refine (match_calls Ap cp _ 3 bkp _ (Kd.V_reads' (Kd.V_alloc HVp.out _)).2.2 (Kd.V_reads' HVp.out).2.1 (heap_alloc_new _ _) rfl (by decide) matchp_val).mono ?_
  rintro e w5 ⟨rfl, hb⟩
  clear HVp
  have HVq_ := Aside0.mk (Kd.V_below (Kd.V_alloc HVq.out _) hb)
  clear HVq
  have HVq := HVq_
  clear HVq_
  have HVv_ := Aside0.mk (Kd.V_below (Kd.V_alloc HVv.out _) hb)
  clear HVv
  have HVv := HVv_
  clear HVv_
  have HB_ := Aside0.mk (below_step (below_alloc HB.out _) hb)
  clear HB hb
  have HB := HB_
  clear HB_
  go_wp2_with (fail)
  refine (match_calls Aq cq _ 3 bkq _ (Kd.V_reads' (Kd.V_alloc HVq.out _)).2.2 (Kd.V_reads' HVq.out).2.1 (heap_alloc_new _ _) rfl (by decide) matchq_val).mono ?_
  rintro e w5 ⟨rfl, hb⟩
  clear HVq
  have HVv_ := Aside0.mk (Kd.V_below (Kd.V_alloc HVv.out _) hb)
  clear HVv
  have HVv := HVv_
  clear HVv_
  have HB_ := Aside0.mk (below_step (below_alloc HB.out _) hb)
  clear HB hb
  have HB := HB_
  clear HB_
  go_wp2_with (fail)
  refine (match_calls Av cv _ 1 bkw _ (Kd.V_reads' (Kd.V_alloc HVv.out _)).2.2 (Kd.V_reads' HVv.out).2.1 (heap_alloc_new _ _) rfl (by decide) matchw_val).mono ?_
  rintro e w5 ⟨rfl, hb⟩
  clear HVv
  have HB_ := Aside0.mk (below_step (below_alloc HB.out _) hb)
  clear HB hb
  have HB := HB_
  clear HB_
  go_wp2_with (fail)
  refine (book_calls _).mono ?_
  rintro e w1 ⟨A0, c0, A1, c1, A2, c2, rfl, hbc, hb⟩
  have HB_ := Aside0.mk (below_step HB.out hb)
  clear HB hb
  have HB := HB_
  clear HB_
  have HC := Aside0.mk hbc
  clear hbc
  go_wp2_with (fail)
  refine (lack_Left.calls A0 c0 bk0 A1 c1 bk1 A2 c2 bk2 bkl 0 _ HC.out.1 HC.out.2.1 HC.out.2.2.1 HC.out.2.2.2.1 HC.out.2.2.2.2.1 HC.out.2.2.2.2.2 (Fates.below HFA.out HB.out) left_val).mono ?_
  rintro e w2 ⟨l, rfl, hl, hb⟩
  have HB_ := Aside0.mk (below_step HB.out hb)
  clear HB hb
  have HB := HB_
  clear HB_
  obtain ⟨Al, cl, rfl⟩ := Kd.V_slice hl
  have HVl := Aside0.mk hl
  clear hl
  clear HC
  go_wp2_with (fail)
  refine (book_calls _).mono ?_
  rintro e w1 ⟨A0, c0, A1, c1, A2, c2, rfl, hbc, hb⟩
  have HVl_ := Aside0.mk (Kd.V_below HVl.out hb)
  clear HVl
  have HVl := HVl_
  clear HVl_
  have HB_ := Aside0.mk (below_step HB.out hb)
  clear HB hb
  have HB := HB_
  clear HB_
  have HC := Aside0.mk hbc
  clear hbc
  go_wp2_with (fail)
  refine (wishbooklaw10_then.calls bkt _ then_val).mono ?_
  rintro e w6 ⟨v6, rfl, ho6, hb⟩
  have HCn := Aside0.mk (show BookC _ A0 A1 A2 c0 c1 c2 from ⟨Kd.C_below HC.out.1 hb, HC.out.2.1, Kd.C_below HC.out.2.2.1 hb, HC.out.2.2.2.1, Kd.C_below HC.out.2.2.2.2.1 hb, HC.out.2.2.2.2.2⟩)
  clear HC
  have HC := HCn
  clear HCn
  have HVl_ := Aside0.mk (Kd.V_below HVl.out hb)
  clear HVl
  have HVl := HVl_
  clear HVl_
  have HB_ := Aside0.mk (below_step HB.out hb)
  clear HB hb
  have HB := HB_
  clear HB_
  obtain ⟨A6, c6, rfl, g6, r6⟩ := Kd.R_reads ho6
  clear ho6
  go_wp2_with (fail)
  refine (lack_Come.calls A0 c0 bk0 A1 c1 bk1 A2 c2 bk2 2 A6 c6 bkt 20 0 _ HC.out.1 HC.out.2.1 HC.out.2.2.1 HC.out.2.2.2.1 HC.out.2.2.2.2.1 HC.out.2.2.2.2.2 r6 g6 (Fates.below HFA.out HB.out) come_val).mono ?_
  rintro e w7 ⟨rfl, hb⟩
  have HVl_ := Aside0.mk (Kd.V_below HVl.out hb)
  clear HVl
  have HVl := HVl_
  clear HVl_
  have HB_ := Aside0.mk (below_step HB.out hb)
  clear HB hb
  have HB := HB_
  clear HB_
  clear HC
  go_wp2_with (fail)
  refine (book_calls _).mono ?_
  rintro e w1 ⟨A0, c0, A1, c1, A2, c2, rfl, hbc, hb⟩
  have HVl_ := Aside0.mk (Kd.V_below HVl.out hb)
  clear HVl
  have HVl := HVl_
  clear HVl_
  have HB_ := Aside0.mk (below_step HB.out hb)
  clear HB hb
  have HB := HB_
  clear HB_
  have HC := Aside0.mk hbc
  clear hbc
  go_wp2_with (fail)
  refine (lack_Last.calls A0 c0 bk0 A1 c1 bk1 A2 c2 bk2 2 28 0 _ HC.out.1 HC.out.2.1 HC.out.2.2.1 HC.out.2.2.2.1 HC.out.2.2.2.2.1 HC.out.2.2.2.2.2 (Fates.below HFA.out HB.out) last_val).mono ?_
  rintro e w2 ⟨rfl, hb⟩
  have HVl_ := Aside0.mk (Kd.V_below HVl.out hb)
  clear HVl
  have HVl := HVl_
  clear HVl_
  have HB_ := Aside0.mk (below_step HB.out hb)
  clear HB hb
  have HB := HB_
  clear HB_
  clear HC
  go_wp2_with (fail)
  refine (book_calls _).mono ?_
  rintro e w1 ⟨A0, c0, A1, c1, A2, c2, rfl, hbc, hb⟩
  have HVl_ := Aside0.mk (Kd.V_below HVl.out hb)
  clear HVl
  have HVl := HVl_
  clear HVl_
  have HB_ := Aside0.mk (below_step HB.out hb)
  clear HB hb
  have HB := HB_
  clear HB_
  have HC := Aside0.mk hbc
  clear hbc
  go_wp2_with (fail)
  refine (lack_Late.calls A0 c0 bk0 A1 c1 bk1 A2 c2 bk2 0 3 0 _ HC.out.1 HC.out.2.1 HC.out.2.2.1 HC.out.2.2.2.1 HC.out.2.2.2.2.1 HC.out.2.2.2.2.2 (Fates.below HFA.out HB.out) late_val).mono ?_
  rintro e w2 ⟨rfl, hb⟩
  have HVl_ := Aside0.mk (Kd.V_below HVl.out hb)
  clear HVl
  have HVl := HVl_
  clear HVl_
  have HB_ := Aside0.mk (below_step HB.out hb)
  clear HB hb
  have HB := HB_
  clear HB_
  clear HC
  go_wp2_with (fail)
  refine (book_calls _).mono ?_
  rintro e w1 ⟨A0, c0, A1, c1, A2, c2, rfl, hbc, hb⟩
  have HVl_ := Aside0.mk (Kd.V_below HVl.out hb)
  clear HVl
  have HVl := HVl_
  clear HVl_
  have HB_ := Aside0.mk (below_step HB.out hb)
  clear HB hb
  have HB := HB_
  clear HB_
  have HC := Aside0.mk hbc
  clear hbc
  go_wp2_with (fail)
  refine (lack_Broken.calls A0 c0 bk0 A1 c1 bk1 A2 c2 bk2 1 bkb 0 _ HC.out.1 HC.out.2.1 HC.out.2.2.1 HC.out.2.2.2.1 HC.out.2.2.2.2.1 HC.out.2.2.2.2.2 (Fates.below HFA.out HB.out) broken_val).mono ?_
  rintro e w2 ⟨b, rfl, hb, hb⟩
  have HVl_ := Aside0.mk (Kd.V_below HVl.out hb)
  clear HVl
  have HVl := HVl_
  clear HVl_
  have HB_ := Aside0.mk (below_step HB.out hb)
  clear HB hb
  have HB := HB_
  clear HB_
  obtain ⟨Ab, cb, rfl⟩ := Kd.V_slice hb
  have HVb := Aside0.mk hb
  clear hb
  clear HC
  go_wp2_with (fail)
  refine (match_calls Al cl _ 3 bkl _ (Kd.V_reads' (Kd.V_alloc HVl.out _)).2.2 (Kd.V_reads' HVl.out).2.1 (heap_alloc_new _ _) rfl (by decide) matchl_val).mono ?_
  rintro e w5 ⟨rfl, hb⟩
  clear HVl
  have HVb_ := Aside0.mk (Kd.V_below (Kd.V_alloc HVb.out _) hb)
  clear HVb
  have HVb := HVb_
  clear HVb_
  have HB_ := Aside0.mk (below_step (below_alloc HB.out _) hb)
  clear HB hb
  have HB := HB_
  clear HB_
  go_wp2_with (fail)
  refine (match_calls Ab cb _ 2 bkb _ (Kd.V_reads' (Kd.V_alloc HVb.out _)).2.2 (Kd.V_reads' HVb.out).2.1 (heap_alloc_new _ _) rfl (by decide) matchb_val).mono ?_
  rintro e w5 ⟨rfl, hb⟩
  clear HVb
  have HB_ := Aside0.mk (below_step (below_alloc HB.out _) hb)
  clear HB hb
  have HB := HB_
  clear HB_
  go_wp2

  go_ret
  exact ⟨rfl, HB.out⟩
end Go.Proofs.YtegpepnmnlockaaDoor.PL

/- Part 1 of a proof: what the last text rests on. -/
import Derived.Test.YtegpepnmnlockaaDoorXLackSurely0
namespace Go.Proofs.YtegpepnmnlockaaDoor.PL
open Go.RowKit Go.Proofs.YtegpepnmnlockaaDoorW.PrintWords Go.Proofs.YtegpepnmnlockaaDoorW.PrintLast Go.Proofs.YtegpepnmnlockaaDoorW.PrintMore
set_option linter.unusedVariables false
set_option linter.unusedSimpArgs false
def okStock (x : Int) : Prop := 0 ≤ x ∧ x ≤ 50
instance (x : Int) : Decidable (okStock x) := by unfold okStock; infer_instance
def okLine (n : Int) (x : S47) : Prop := (0 ≤ x.f0 ∧ x.f0 ≤ 9) ∧ (0 ≤ x.f1 ∧ x.f1 ≤ n - 1) ∧ (1 ≤ x.f2 ∧ x.f2 ≤ 20) ∧ (0 ≤ x.f3 ∧ x.f3 ≤ 100) ∧ (-1 ≤ x.f4 ∧ x.f4 ≤ n - 1) ∧ x.f4 ≠ x.f1
instance (n : Int) (x : S47) : Decidable (okLine n x) := by unfold okLine; infer_instance
def okDel (n : Int) (x : S57) : Prop := (0 ≤ x.f0 ∧ x.f0 ≤ n - 1) ∧ (1 ≤ x.f1.f0 ∧ x.f1.f0 ≤ x.f1.f1 ∧ x.f1.f1 ≤ 100) ∧ (0 ≤ x.f2.f0 ∧ x.f2.f0 ≤ x.f2.f1 ∧ x.f2.f1 ≤ 50)
instance (n : Int) (x : S57) : Decidable (okDel n x) := by unfold okDel; infer_instance
/-- Is it a book? -/
def okB (l0 : List Int) (l1 : List S47) (l2 : List S57) : Bool :=
  decide (1 ≤ (l0.length : Int) ∧ (l0.length : Int) ≤ 5) && decide (1 ≤ (l1.length : Int) ∧ (l1.length : Int) ≤ 10) && decide ((l2.length : Int) ≤ 6) && l0.all (fun x => decide (okStock x)) && l1.all (fun x => decide (okLine l0.length x)) && l2.all (fun x => decide (okDel l0.length x))
theorem within_f (a b c : Int) : lack_within.f a b c = some (decide (b ≤ a ∧ a ≤ c)) := by
  unfold lack_within.f
  by_cases h : b ≤ a <;> simp [h]
theorem wrap_succ {i : Nat} (h : (i : Int) < 9000000000000000000) : wrap64 ((i : Int) + 1) = ((i + 1 : Nat) : Int) := by unfold wrap64; omega
theorem wrap_pred {i : Nat} (h : (i : Int) < 9000000000000000000) : wrap64 ((i : Int) - 1) = (i : Int) - 1 := by unfold wrap64; omega
theorem all_at {α : Type} (p : α → Bool) (l : List α) (f : Nat → α) (h : ∀ i, i < l.length → l[i]? = some (f i)) : l.all p = (List.range l.length).all fun i => p (f i) := by
  have e : l = (List.range l.length).map f := by
    apply List.ext_getElem?
    intro i
    by_cases hi : i < l.length
    · rw [h i hi, List.getElem?_map, List.getElem?_range hi]; rfl
    · rw [List.getElem?_eq_none (by omega), List.getElem?_eq_none (by simp; omega)]
  conv => lhs; rw [e]
  rw [List.all_map]
  rfl
theorem chkS_all (l0 : List Int) (b : Bool) : ∀ n, chkS l0 b n = (b && (List.range n).all fun i => wthB (rd l0 (i : Nat)) 0 50)
  | 0 => by simp [chkS]
  | n + 1 => by rw [chkS, chkS_all l0 b n, List.range_succ, List.all_append, Bool.and_assoc]; simp
theorem chkL_all (m : Int) (l1 : List S47) (b : Bool) : ∀ n, chkL m l1 b n = (b && (List.range n).all fun i => lineB m (rd_T47 l1 (i : Nat)))
  | 0 => by simp [chkL]
  | n + 1 => by rw [chkL, chkL_all m l1 b n, List.range_succ, List.all_append, Bool.and_assoc]; simp
theorem chkD_all (m : Int) (l2 : List S57) (b : Bool) : ∀ n, chkD m l2 b n = (b && (List.range n).all fun i => delB m (rd_T57 l2 (i : Nat)))
  | 0 => by simp [chkD]
  | n + 1 => by rw [chkD, chkD_all m l2 b n, List.range_succ, List.all_append, Bool.and_assoc]; simp
theorem stockB (x : Int) : decide (okStock x) = wthB x 0 50 := decide_eq_decide.2 Iff.rfl
theorem lineB_ok (n : Int) (x : S47) : decide (okLine n x) = lineB n x := by
  rw [Bool.eq_iff_iff]
  simp [lineB, wthB, okLine, and_assoc]
theorem delB_ok (n : Int) (x : S57) : decide (okDel n x) = delB n x := by
  rw [Bool.eq_iff_iff]
  simp [delB, wthB, spnB, okDel, and_assoc]
theorem chk_ok (l0 : List Int) (l1 : List S47) (l2 : List S57) : chkD l0.length l2 (chkL l0.length l1 (chkS l0 (lenB l0 l1 l2) l0.length) l1.length) l2.length = okB l0 l1 l2 := by
  rw [chkD_all, chkL_all, chkS_all]
  unfold okB lenB
  rw [all_at _ l0 (fun i => rd l0 (i : Nat)) (fun i hi => by rw [rd, Int.toNat_natCast, List.getD_eq_getElem?_getD, List.getElem?_eq_getElem hi]; rfl),
    all_at _ l1 (fun i => rd_T47 l1 (i : Nat)) (fun i hi => by rw [rd_T47, Int.toNat_natCast, List.getD_eq_getElem?_getD, List.getElem?_eq_getElem hi]; rfl),
    all_at _ l2 (fun i => rd_T57 l2 (i : Nat)) (fun i hi => by rw [rd_T57, Int.toNat_natCast, List.getD_eq_getElem?_getD, List.getElem?_eq_getElem hi]; rfl)]
  simp only [stockB, lineB_ok, delB_ok]
  rfl
/-- The lists are as long as lists of a machine are. -/
def Few (l0 : List Int) (l1 : List S47) (l2 : List S57) : Prop := (l0.length : Int) < 9000000000000000000 ∧ (l1.length : Int) < 9000000000000000000 ∧ (l2.length : Int) < 9000000000000000000
instance (l0 : List Int) (l1 : List S47) (l2 : List S57) : Decidable (Few l0 l1 l2) := by unfold Few; infer_instance
theorem Check_calls (A0 A1 A2 : Option Addr) (c0 c1 c2 : Nat) (l0 : List Int) (l1 : List S47) (l2 : List S57) (w : World)
    (h0 : Kd.C (Kd.int .i64) w A0 l0.length l0) (hc0 : l0.length ≤ c0) (h1 : Kd.C k47 w A1 l1.length l1) (hc1 : l1.length ≤ c1) (h2 : Kd.C k57 w A2 l2.length l2) (hc2 : l2.length ≤ c2) (hf : Few l0 l1 l2) :
    Calls Tryd.prog 44 #[.agg #[.slice A0 l0.length c0, .slice A1 l1.length c1, .slice A2 l2.length c2]] w fun e w' => e = .returned (.int .i64 (if okB l0 l1 l2 = true then 0 else 100)) ∧ Below w.heap.size w w' :=
  (Check_walk A0 A1 A2 c0 c1 c2 l0 l1 l2 w h0 hc0 h1 hc1 h2 hc2 hf.1 hf.2.1 hf.2.2).mono fun e w' ⟨he, hb⟩ => ⟨by rw [he, chk_ok]; rfl, hb⟩
theorem okB_facts {l0 : List Int} {l1 : List S47} {l2 : List S57} (h : okB l0 l1 l2 = true) :
    1 ≤ l0.length ∧ l0.length ≤ 5 ∧ 1 ≤ l1.length ∧ l1.length ≤ 10 ∧ l2.length ≤ 6 ∧ (∀ x ∈ l0, 0 ≤ x ∧ x ≤ 50) ∧ (∀ x ∈ l1, okLine l0.length x) ∧ (∀ x ∈ l2, okDel l0.length x) := by
  simp only [okB, Bool.and_eq_true, decide_eq_true_eq, List.all_eq_true] at h
  obtain ⟨⟨⟨⟨⟨a, b⟩, c⟩, d⟩, e⟩, f⟩ := h
  exact ⟨by omega, by omega, by omega, by omega, by omega, fun x hx => d x hx, e, f⟩
theorem okLine_of {n : Nat} (hn : n ≤ 5) {x : S47} (h : okLine n x) : OkLine x := by
  unfold okLine at h; unfold OkLine; omega
theorem okDel_of {n : Nat} (hn : n ≤ 5) {x : S57} (h : okDel n x) : OkDel x := by
  unfold okDel at h; unfold OkDel; omega
end Go.Proofs.YtegpepnmnlockaaDoor.PL
namespace Go.Proofs.YtegpepnmnlockaaDoor.PL
open Go.RowKit Go.Proofs.YtegpepnmnlockaaDoorW.PrintWords Go.Proofs.YtegpepnmnlockaaDoorW.PrintLast Go.Proofs.YtegpepnmnlockaaDoorW.PrintMore
set_option linter.unusedVariables false
set_option linter.unusedSimpArgs false
theorem BookAt.lower {w w1 w' : World} {g : Nat} {S D : Value} {A1 : Option Addr} {c1 : Nat} {l1 : List S47} {left : List Int} {mb n : Nat} {F : Int → Int → Int} {sv : Value} {sh : List S49} (h : BookAt w1 w' g S D A1 c1 l1 left mb n F sv sh) (hb : Below w.heap.size w w1) : BookAt w w' g S D A1 c1 l1 left mb n F sv sh :=
  ⟨h.cells, h.map, h.small, Kd.R_lower h.rows (below_size hb), Nat.le_trans (below_size hb) h.new, below_step hb h.below⟩
/-- The shares of a book, and what is left. -/
def servF (l0 : List Int) (l1 : List S47) (l2 : List S57) : List Int × List S49 := serveF l1 (comTo l2 l2.length) l1.length 0 (left0 l0, [])
set_option maxHeartbeats 8000000 in
set_option maxRecDepth 100000 in
theorem asked_bad (A0 A1 A2 : Option Addr) (c0 c1 c2 : Nat) (l0 : List Int) (l1 : List S47) (l2 : List S57) (right : Bool) (w : World)
    (h0 : Kd.C (Kd.int .i64) w A0 l0.length l0) (hc0 : l0.length ≤ c0) (h1 : Kd.C k47 w A1 l1.length l1) (hc1 : l1.length ≤ c1) (h2 : Kd.C k57 w A2 l2.length l2) (hc2 : l2.length ≤ c2)
    (hf : Few l0 l1 l2) (hb : okB l0 l1 l2 = false) :
    Calls Tryd.prog 46 #[.agg #[.slice A0 l0.length c0, .slice A1 l1.length c1, .slice A2 l2.length c2], .bool right] w fun e w' => e = .returned (.tuple #[.pointer none, .int .i64 100]) ∧ Below w.heap.size w w' := by
  have H0 := Aside0.mk h0
  have H1 := Aside0.mk h1
  have H2 := Aside0.mk h2
  clear h0 h1 h2
  have hu26 := Tryd.underlying26
  go_enter Tryd.func46, Tryd.ntmps46
  go_wp2_with (fail)
  have HC := Check_calls A0 A1 A2 c0 c1 c2 l0 l1 l2 _ (Kd.C_below H0.out (below_alloc (Below.refl _ _) (.cells #[.slice A0 l0.length c0, .slice A1 l1.length c1, .slice A2 l2.length c2] 26))) hc0 (Kd.C_below H1.out (below_alloc (Below.refl _ _) _)) hc1 (Kd.C_below H2.out (below_alloc (Below.refl _ _) _)) hc2 hf
  rw [hb] at HC
  refine HC.mono ?_
  rintro e w2 ⟨rfl, hb2⟩
  have HB2 := Aside0.mk (below_step (below_alloc (Below.refl w.heap.size w) _) hb2)
  clear hb2 HC
  go_wp2
  refine bodyPost_ret (results_tmp2 rfl _ _ _) rfl ?_
  exact ⟨rfl, HB2.out⟩
set_option maxHeartbeats 8000000 in
set_option maxRecDepth 100000 in
theorem asked_not (A0 A1 A2 : Option Addr) (c0 c1 c2 : Nat) (l0 : List Int) (l1 : List S47) (l2 : List S57) (right : Bool) (w : World)
    (h0 : Kd.C (Kd.int .i64) w A0 l0.length l0) (hc0 : l0.length ≤ c0) (h1 : Kd.C k47 w A1 l1.length l1) (hc1 : l1.length ≤ c1) (h2 : Kd.C k57 w A2 l2.length l2) (hc2 : l2.length ≤ c2)
    (hf : Few l0 l1 l2) (hb : okB l0 l1 l2 = true) (hr : right = false) :
    Calls Tryd.prog 46 #[.agg #[.slice A0 l0.length c0, .slice A1 l1.length c1, .slice A2 l2.length c2], .bool right] w fun e w' => e = .returned (.tuple #[.pointer none, .int .i64 101]) ∧ Below w.heap.size w w' := by
  subst hr
  have H0 := Aside0.mk h0
  have H1 := Aside0.mk h1
  have H2 := Aside0.mk h2
  clear h0 h1 h2
  have hu26 := Tryd.underlying26
  go_enter Tryd.func46, Tryd.ntmps46
  go_wp2_with (fail)
  have HC := Check_calls A0 A1 A2 c0 c1 c2 l0 l1 l2 _ (Kd.C_below H0.out (below_alloc (Below.refl _ _) (.cells #[.slice A0 l0.length c0, .slice A1 l1.length c1, .slice A2 l2.length c2] 26))) hc0 (Kd.C_below H1.out (below_alloc (Below.refl _ _) _)) hc1 (Kd.C_below H2.out (below_alloc (Below.refl _ _) _)) hc2 hf
  rw [hb] at HC
  refine HC.mono ?_
  rintro e w2 ⟨rfl, hb2⟩
  have HB2 := Aside0.mk (below_step (below_alloc (Below.refl w.heap.size w) _) hb2)
  clear hb2 HC
  go_wp2
  refine bodyPost_ret (results_tmp2 rfl _ _ _) rfl ?_
  exact ⟨rfl, HB2.out⟩
set_option maxHeartbeats 8000000 in
set_option maxRecDepth 100000 in
theorem asked_ok (A0 A1 A2 : Option Addr) (c0 c1 c2 : Nat) (l0 : List Int) (l1 : List S47) (l2 : List S57) (right : Bool) (w : World)
    (h0 : Kd.C (Kd.int .i64) w A0 l0.length l0) (hc0 : l0.length ≤ c0) (h1 : Kd.C k47 w A1 l1.length l1) (hc1 : l1.length ≤ c1) (h2 : Kd.C k57 w A2 l2.length l2) (hc2 : l2.length ≤ c2)
    (hf : Few l0 l1 l2) (hb : okB l0 l1 l2 = true) (hr : right = true) (hfa : Fates w) :
    Calls Tryd.prog 46 #[.agg #[.slice A0 l0.length c0, .slice A1 l1.length c1, .slice A2 l2.length c2], .bool right] w fun e w' => ∃ g mb n sv, e = .returned (.tuple #[.pointer (some ⟨g, 0, none⟩), .int .i64 0]) ∧
      BookAt w w' g (.slice A0 l0.length c0) (.slice A2 l2.length c2) A1 c1 l1 (servF l0 l1 l2).1 mb n (comTo l2 l2.length) sv (servF l0 l1 l2).2 := by
  subst hr
  have HFA := Aside0.mk hfa
  clear hfa
  have H0 := Aside0.mk h0
  have H1 := Aside0.mk h1
  have H2 := Aside0.mk h2
  clear h0 h1 h2
  have hu26 := Tryd.underlying26
  go_enter Tryd.func46, Tryd.ntmps46
  go_wp2_with (fail)
  have HC := Check_calls A0 A1 A2 c0 c1 c2 l0 l1 l2 _ (Kd.C_below H0.out (below_alloc (Below.refl _ _) (.cells #[.slice A0 l0.length c0, .slice A1 l1.length c1, .slice A2 l2.length c2] 26))) hc0 (Kd.C_below H1.out (below_alloc (Below.refl _ _) _)) hc1 (Kd.C_below H2.out (below_alloc (Below.refl _ _) _)) hc2 hf
  rw [hb] at HC
  refine HC.mono ?_
  rintro e w2 ⟨rfl, hb2⟩
  have HB2 := Aside0.mk (below_step (below_alloc (Below.refl w.heap.size w) _) hb2)
  have hcell := blk_below (heap_alloc_new w (.cells #[.slice A0 l0.length c0, .slice A1 l1.length c1, .slice A2 l2.length c2] 26)) hb2
  have q0 := (blk_cell hcell 0).trans (show _ = some (Value.slice A0 l0.length c0) from rfl)
  have q1 := (blk_cell hcell 1).trans (show _ = some (Value.slice A1 l1.length c1) from rfl)
  have q2 := (blk_cell hcell 2).trans (show _ = some (Value.slice A2 l2.length c2) from rfl)
  clear hb2 HC hcell
  have F := Aside0.mk (okB_facts hb)
  go_wp2_with (fail)
  refine (served_calls A0 A1 A2 c0 c1 c2 l0 l1 l2 w2 (Kd.C_below H0.out HB2.out) hc0 (Kd.C_below H1.out HB2.out) hc1 (Kd.C_below H2.out HB2.out) hc2 (blk_below HFA.out HB2.out) F.out.1 F.out.2.1 F.out.2.2.2.2.2.1 F.out.2.2.2.1 (fun x hx => okLine_of F.out.2.1 (F.out.2.2.2.2.2.2.1 x hx)) F.out.2.2.2.2.1 (fun x hx => okDel_of F.out.2.1 (F.out.2.2.2.2.2.2.2 x hx))).mono ?_
  rintro e w4 ⟨g, mb, n, sv, rfl, hbk⟩
  have HBK := Aside0.mk (hbk.lower HB2.out)
  clear hbk
  go_wp2
  refine bodyPost_ret (results_tmp2 rfl _ _ _) rfl ?_
  exact ⟨g, mb, n, sv, rfl, HBK.out⟩
end Go.Proofs.YtegpepnmnlockaaDoor.PL
namespace Go.Proofs.YtegpepnmnlockaaDoor.PL
open Go.RowKit Go.Proofs.YtegpepnmnlockaaDoorW.PrintWords Go.Proofs.YtegpepnmnlockaaDoorW.PrintLast Go.Proofs.YtegpepnmnlockaaDoorW.PrintMore
set_option linter.unusedVariables false
set_option linter.unusedSimpArgs false
theorem R_cut {α : Type} {d : Kd α} {e base : Nat} {ok : Nat → Prop} {W : World} {v : Value} {xs : List α} (h : d.R e W base ok v xs) : ∃ A c, v = .slice A xs.length c ∧ xs.length ≤ c ∧ Kd.V d e W base (fun k => base ≤ k) (.slice A xs.length xs.length) xs := by
  obtain ⟨A, c, rfl⟩ := Kd.R_slice h
  have hv := Kd.V_mono (Kd.R_V (base' := base) (Kd.R_bound h)) (ok' := fun k => base ≤ k) (fun k hk => hk.2.1)
  exact ⟨A, c, rfl, (Kd.V_at hv).2.1, Kd.V_mk (Nat.le_refl _) (Kd.V_at hv).2.2⟩
def lack_Shares.f (l0 : List Int) (l1 : List S47) (l2 : List S57) : Option (List S49 × Int) := if Few l0 l1 l2 then (if okB l0 l1 l2 = true then some ((servF l0 l1 l2).2, 0) else some ([], 100)) else none
set_option maxHeartbeats 8000000 in
set_option maxRecDepth 100000 in
theorem lack_Shares.calls (A0 : Option Addr) (c0 : Nat) (l0 : List Int) (A1 : Option Addr) (c1 : Nat) (l1 : List S47) (A2 : Option Addr) (c2 : Nat) (l2 : List S57) (r1 : List S49) (r2 : Int) (w : World)
    (h0 : Kd.C (Kd.int .i64) w A0 l0.length l0) (hc0 : l0.length ≤ c0) (h1 : Kd.C k47 w A1 l1.length l1) (hc1 : l1.length ≤ c1) (h2 : Kd.C k57 w A2 l2.length l2) (hc2 : l2.length ≤ c2) (hfa : Fates w)
    (h : lack_Shares.f l0 l1 l2 = some (r1, r2)) :
    Calls Tryd.prog 28 #[.agg #[.slice A0 l0.length c0, .slice A1 l1.length c1, .slice A2 l2.length c2]] w fun e w' => ∃ v1_ : Value, e = .returned (.tuple #[v1_, .int .i64 r2]) ∧ Kd.V k49 49 w' w.heap.size (fun k_ => w.heap.size ≤ k_) v1_ r1 ∧ Below w.heap.size w w' := by
  unfold lack_Shares.f at h
  by_cases hf : Few l0 l1 l2
  case neg => rw [if_neg hf] at h; cases h
  rw [if_pos hf] at h
  have H0 := Aside0.mk h0
  have H1 := Aside0.mk h1
  have H2 := Aside0.mk h2
  have HFA := Aside0.mk hfa
  clear h0 h1 h2 hfa
  have hu26 := Tryd.underlying26
  have hu86 := Tryd.underlying86
  have W1 := below_alloc (Below.refl w.heap.size w) (.cells #[.slice A0 l0.length c0, .slice A1 l1.length c1, .slice A2 l2.length c2] 26)
  have HW1 := Aside0.mk W1
  clear W1
  cases hb : okB l0 l1 l2 with
  | false =>
    rw [hb] at h
    cases h
    go_enter Tryd.func28, Tryd.ntmps28
    go_wp2_with (fail)
    refine (asked_bad A0 A1 A2 c0 c1 c2 l0 l1 l2 true _ (Kd.C_below H0.out HW1.out) hc0 (Kd.C_below H1.out HW1.out) hc1 (Kd.C_below H2.out HW1.out) hc2 hf hb).mono ?_
    rintro e w2 ⟨rfl, hb2⟩
    have HB2 := Aside0.mk (below_step HW1.out hb2)
    clear hb2
    go_wp2
    refine bodyPost_ret (results_tmp2 rfl _ _ _) rfl ?_
    exact ⟨_, rfl, Kd.V_nil _ _ _ _ _, HB2.out⟩
  | true =>
    rw [hb] at h
    cases h
    go_enter Tryd.func28, Tryd.ntmps28
    go_wp2_with (fail)
    refine (asked_ok A0 A1 A2 c0 c1 c2 l0 l1 l2 true _ (Kd.C_below H0.out HW1.out) hc0 (Kd.C_below H1.out HW1.out) hc1 (Kd.C_below H2.out HW1.out) hc2 hf hb rfl (blk_below HFA.out HW1.out)).mono ?_
    rintro e w2 ⟨g, mb, n, sv, rfl, hbk⟩
    have HBK := Aside0.mk (hbk.lower HW1.out)
    clear hbk
    obtain ⟨As, cs, rfl, hcs, hV⟩ := R_cut HBK.out.rows
    have HV := Aside0.mk hV
    clear hV
    have p9 := (blk_cell HBK.out.cells 9).trans (show _ = some (Value.slice As (servF l0 l1 l2).2.length cs) from rfl)
    have i1 : ((servF l0 l1 l2).2.length : Int) ≤ (cs : Int) := by omega
    have HI := Aside0.mk hcs
    clear hcs
    go_wp2
    go_quiet (fail)
    go_wp2
    refine bodyPost_ret (results_tmp2 rfl _ _ _) rfl ?_
    exact ⟨_, rfl, Kd.V_drewN HV.out _, pw_below_drewN HBK.out.below _⟩
end Go.Proofs.YtegpepnmnlockaaDoor.PL
namespace Go.Proofs.YtegpepnmnlockaaDoor.PL
open Go.RowKit Go.Proofs.YtegpepnmnlockaaDoorW.PrintWords Go.Proofs.YtegpepnmnlockaaDoorW.PrintLast Go.Proofs.YtegpepnmnlockaaDoorW.PrintMore
set_option linter.unusedVariables false
set_option linter.unusedSimpArgs false
theorem wpList_clone {α : Type} {d : Kd α} {enc : α → List Value} (F : Flat d enc) {P : Program} (w : World) {ops : Array Oper} {rest : List Oper} {o : Oper} {a : Act} {Q : Exit → Act → World → Prop}
    (hg : o.guard = none) (s x : Operand) (t : TypeId) (hop : o.op = Op.call { callee := Callee.builtin Builtin.append, args := #[s, x], argTypes := #[t, t] })
    (e : TypeId) (z : Value) (bytes : Nat) (h1 : P.underlying t = some (.slice e)) (hinfo : (P.info? e).map (fun i => (i.zero, i.size, i.bytes)) = some (some z, d.sz, bytes)) (h6 : z.cells.size = d.sz)
    (b : Addr) (hs : a.eval s = .slice (some b) 0 0) (ad : Addr) (c : Nat) (xs : List α) (hx : a.eval x = .slice (some ad) xs.length c) (hC : Kd.C d w (some ad) xs.length xs) (h0 : 1 ≤ xs.length) (hm : xs.length ≤ maxLen) (hb : xs.length * bytes ≤ 140737488355328)
    (hK : ∀ v' w', d.R e w' w.heap.size (fun _ => True) v' xs → w.grownBy w' none → wpList P ops Q rest (a.put o.dst v') w') :
    wpList P ops Q (o :: rest) a w := by
  obtain ⟨i, hi, hzz⟩ := Option.map_eq_some_iff.1 hinfo
  simp only [Prod.mk.injEq] at hzz
  obtain ⟨hz0, hz1, hz2⟩ := hzz
  refine wpList_append_grows w hg s x t hop e i z d.sz bytes h1 hi hz0 hz1 hz2 h6 F.pos (some b) 0 0 [] hs (fun h => by cases h) (by simp) (fun b' _ j u h => by simp at h) ad xs.length c (xs.flatMap enc) hx (F.olds xs) (F.cells hC) (fun u hu => by obtain ⟨y, -, hy⟩ := List.mem_flatMap.1 hu; exact F.one y u hy) (by omega) (by omega) (by rw [Nat.zero_add]; exact hb) (fun v' w' r1 r2 => hK v' w' (F.R ?_ _ (fun _ _ => trivial)) r2)
  rw [Nat.zero_add, List.nil_append] at r1
  exact r1
def enc57 (x : S57) : List Value := [.int .i64 x.f0, .int .i64 x.f1.f0, .int .i64 x.f1.f1, .int .i64 x.f2.f0, .int .i64 x.f2.f1]
theorem flat57 : Flat k57 enc57 where
  len := fun _ => rfl
  pos := by decide
  K := k57_open
  M := fun w base ok x => k57_mkM w base ok x
  one := fun x u hu => by
    simp only [enc57, List.mem_cons, List.not_mem_nil, or_false] at hu
    rcases hu with rfl | rfl | rfl | rfl | rfl <;> rfl
set_option maxHeartbeats 8000000 in
set_option maxRecDepth 100000 in
theorem clone22_calls (ad : Addr) (c n : Nat) (xs : List Int) (w : World) (hn : xs.length = n) (hC : Kd.C (Kd.int .i64) w (some ad) xs.length xs) (h0 : 1 ≤ xs.length) (hl : xs.length ≤ 1000) :
    Calls Tryd.prog 64 #[.slice (some ad) n c] w fun e w' => ∃ v, e = .returned v ∧ Kd.R (Kd.int .i64) 3 w' w.heap.size (fun _ => True) v xs ∧ Below w.heap.size w w' := by
  subst hn
  have HC := Aside0.mk hC
  clear hC
  have heq : ∀ W, (binOp .eql 22 (.slice (some ad) xs.length c) (.slice none 0 0)).run Tryd.prog W = .ok (.bool false) W := fun W => by kernel_rfl
  go_enter Tryd.func64, Tryd.ntmps64
  go_wp2_with (at_builtin; refine wpList_clone flatI _ rfl (.tmp 5) (.tmp 6) 22 rfl 3 (.int .i64 0) 8 Tryd.underlying22 (by kernel_rfl) (by kernel_rfl) ⟨w.heap.size, 0, none⟩ (by rfl) ad c xs (by rfl) (Kd.C_below HC.out (below_alloc (Below.refl _ _) _)) h0 (by simp only [maxLen]; omega) (by omega) ?_; intro v1 w1 hR hg; have HR := Aside0.mk hR; have HG := Aside0.mk hg; clear hR hg)
  refine bodyPost_ret (results_tmp rfl _ _ _) rfl ?_
  exact ⟨_, rfl, Kd.R_lower HR.out (by simp), below_grown_none (below_alloc (Below.refl _ _) _) HG.out⟩
set_option maxHeartbeats 8000000 in
set_option maxRecDepth 100000 in
theorem clone24_calls (ad : Addr) (c n : Nat) (xs : List S57) (w : World) (hn : xs.length = n) (hC : Kd.C k57 w (some ad) xs.length xs) (h0 : 1 ≤ xs.length) (hl : xs.length ≤ 1000) :
    Calls Tryd.prog 56 #[.slice (some ad) n c] w fun e w' => ∃ v, e = .returned v ∧ Kd.R k57 57 w' w.heap.size (fun _ => True) v xs ∧ Below w.heap.size w w' := by
  subst hn
  have HC := Aside0.mk hC
  clear hC
  have heq : ∀ W, (binOp .eql 24 (.slice (some ad) xs.length c) (.slice none 0 0)).run Tryd.prog W = .ok (.bool false) W := fun W => by kernel_rfl
  go_enter Tryd.func56, Tryd.ntmps56
  go_wp2_with (at_builtin; refine wpList_clone flat57 _ rfl (.tmp 5) (.tmp 6) 24 rfl 57 (.agg #[.int .i64 0, .int .i64 0, .int .i64 0, .int .i64 0, .int .i64 0]) 40 Tryd.underlying24 (by kernel_rfl) (by kernel_rfl) ⟨w.heap.size, 0, none⟩ (by rfl) ad c xs (by rfl) (Kd.C_below HC.out (below_alloc (Below.refl _ _) _)) h0 (by simp only [maxLen]; omega) (by omega) ?_; intro v1 w1 hR hg; have HR := Aside0.mk hR; have HG := Aside0.mk hg; clear hR hg)
  refine bodyPost_ret (results_tmp rfl _ _ _) rfl ?_
  exact ⟨_, rfl, Kd.R_lower HR.out (by simp), below_grown_none (below_alloc (Below.refl _ _) _) HG.out⟩
end Go.Proofs.YtegpepnmnlockaaDoor.PL
namespace Go.Proofs.YtegpepnmnlockaaDoor.PL
open Go.RowKit Go.Proofs.YtegpepnmnlockaaDoorW.PrintWords Go.Proofs.YtegpepnmnlockaaDoorW.PrintLast Go.Proofs.YtegpepnmnlockaaDoorW.PrintMore
set_option linter.unusedVariables false
set_option linter.unusedSimpArgs false
theorem serveF_len (l1 : List S47) (F : Int → Int → Int) : ∀ (d k : Nat) (s : List Int × List S49), (serveF l1 F d k s).1.length = s.1.length ∧ (serveF l1 F d k s).2.length = s.2.length + d
  | 0, k, s => ⟨rfl, rfl⟩
  | d + 1, k, s => by
    have h := serveF_len l1 F d (k + 1) (left2F (rd_T47 l1 k) s.1, s.2 ++ [shareF l1 F (rd_T47 l1 k) s.1 s.2])
    refine ⟨h.1.trans ?_, h.2.trans ?_⟩
    · show (left2F _ _).length = _
      rw [left2F, leftOf_len, left1F, List.length_set]
    · show (s.2 ++ [_]).length + d = _
      rw [List.length_append, List.length_singleton]; omega
theorem servF_len {l0 : List Int} (l1 : List S47) (l2 : List S57) (h : l0.length ≤ 5) : (servF l0 l1 l2).1.length = 5 ∧ (servF l0 l1 l2).2.length = l1.length := by
  have := serveF_len l1 (comTo l2 l2.length) l1.length 0 (left0 l0, [])
  unfold servF
  exact ⟨this.1.trans (left0_len h), this.2.trans (by simp)⟩
/-- What is left, read in a book. -/
theorem left_C {w : World} {g : Nat} {S L D : Value} {left : List Int} {mb : Nat} {sv : Value} (h : w.heap[g]? = some (.cells (bookCells S L D left mb sv) 86 (0, 0))) (hl : left.length = 5) {n : Nat} (hn : n ≤ 5) :
    Kd.C (Kd.int .i64) w (some ⟨g, 3, none⟩) (left.take n).length (left.take n) := by
  refine ⟨rfl, by rw [List.length_take]; omega, fun _ => ⟨_, rfl, fun j p hj => ?_⟩⟩
  have hj' : j < (left.take n).length := (List.getElem?_eq_some_iff.1 hj).1
  have hj5 : j < n ∧ j < 5 := by rw [List.length_take] at hj'; omega
  refine ⟨[.int .i64 p], rfl, rfl, fun i u hi => ?_⟩
  have hi0 : i = 0 := by
    have := (List.getElem?_eq_some_iff.1 hi).1
    simp at this
    exact this
  subst hi0
  simp only [List.getElem?_cons_zero, Option.some.injEq] at hi
  subst hi
  have hrd : rd left (j : Int) = p := by
    rw [List.getElem?_take, if_pos hj5.1] at hj
    rw [rd, Int.toNat_natCast, List.getD_eq_getElem?_getD, hj]
    rfl
  rw [Addr.add_lit]
  show w.cell? ⟨g, 3 + (j * 1 + 0), none⟩ = _
  rw [Nat.mul_one, Nat.add_zero, blk_cell h, bookCells_left _ _ _ _ _ _ _ hj5.2, hrd]
theorem cell_book (w : World) (A0 A1 A2 : Option Addr) (c0 c1 c2 : Nat) (l0 : List Int) (l1 : List S47) (l2 : List S57) :
    (w.alloc (.cells #[.slice A0 l0.length c0, .slice A1 l1.length c1, .slice A2 l2.length c2] 26)).cell? ⟨w.heap.size, 0, none⟩ = some (.slice A0 l0.length c0) ∧
    (w.alloc (.cells #[.slice A0 l0.length c0, .slice A1 l1.length c1, .slice A2 l2.length c2] 26)).cell? ⟨w.heap.size, 1, none⟩ = some (.slice A1 l1.length c1) ∧
    (w.alloc (.cells #[.slice A0 l0.length c0, .slice A1 l1.length c1, .slice A2 l2.length c2] 26)).cell? ⟨w.heap.size, 2, none⟩ = some (.slice A2 l2.length c2) :=
  ⟨(blk_cell (heap_alloc_new w _) 0).trans rfl, (blk_cell (heap_alloc_new w _) 1).trans rfl, (blk_cell (heap_alloc_new w _) 2).trans rfl⟩
def lack_Left.f (l0 : List Int) (l1 : List S47) (l2 : List S57) : Option (List Int × Int) := if Few l0 l1 l2 then (if okB l0 l1 l2 = true then some ((servF l0 l1 l2).1.take l0.length, 0) else some ([], 100)) else none
set_option maxHeartbeats 8000000 in
set_option maxRecDepth 100000 in
theorem lack_Left.calls (A0 : Option Addr) (c0 : Nat) (l0 : List Int) (A1 : Option Addr) (c1 : Nat) (l1 : List S47) (A2 : Option Addr) (c2 : Nat) (l2 : List S57) (r1 : List Int) (r2 : Int) (w : World)
    (h0 : Kd.C (Kd.int .i64) w A0 l0.length l0) (hc0 : l0.length ≤ c0) (h1 : Kd.C k47 w A1 l1.length l1) (hc1 : l1.length ≤ c1) (h2 : Kd.C k57 w A2 l2.length l2) (hc2 : l2.length ≤ c2) (hfa : Fates w)
    (h : lack_Left.f l0 l1 l2 = some (r1, r2)) :
    Calls Tryd.prog 29 #[.agg #[.slice A0 l0.length c0, .slice A1 l1.length c1, .slice A2 l2.length c2]] w fun e w' => ∃ v1_ : Value, e = .returned (.tuple #[v1_, .int .i64 r2]) ∧ Kd.V (Kd.int .i64) 3 w' w.heap.size (fun k_ => w.heap.size ≤ k_) v1_ r1 ∧ Below w.heap.size w w' := by
  unfold lack_Left.f at h
  by_cases hf : Few l0 l1 l2
  case neg => rw [if_neg hf] at h; cases h
  rw [if_pos hf] at h
  have H0 := Aside0.mk h0
  have H1 := Aside0.mk h1
  have H2 := Aside0.mk h2
  have HFA := Aside0.mk hfa
  clear h0 h1 h2 hfa
  have hu26 := Tryd.underlying26
  have hu86 := Tryd.underlying86
  have W1 := below_alloc (Below.refl w.heap.size w) (.cells #[.slice A0 l0.length c0, .slice A1 l1.length c1, .slice A2 l2.length c2] 26)
  have HW1 := Aside0.mk W1
  clear W1
  cases hb : okB l0 l1 l2 with
  | false =>
    rw [hb] at h
    cases h
    go_enter Tryd.func29, Tryd.ntmps29
    go_wp2_with (fail)
    refine (asked_bad A0 A1 A2 c0 c1 c2 l0 l1 l2 true _ (Kd.C_below H0.out HW1.out) hc0 (Kd.C_below H1.out HW1.out) hc1 (Kd.C_below H2.out HW1.out) hc2 hf hb).mono ?_
    rintro e w2 ⟨rfl, hb2⟩
    have HB2 := Aside0.mk (below_step HW1.out hb2)
    clear hb2
    go_wp2
    refine bodyPost_ret (results_tmp2 rfl _ _ _) rfl ?_
    exact ⟨_, rfl, Kd.V_nil _ _ _ _ _, HB2.out⟩
  | true =>
    rw [hb] at h
    cases h
    go_enter Tryd.func29, Tryd.ntmps29
    go_wp2_with (fail)
    refine (asked_ok A0 A1 A2 c0 c1 c2 l0 l1 l2 true _ (Kd.C_below H0.out HW1.out) hc0 (Kd.C_below H1.out HW1.out) hc1 (Kd.C_below H2.out HW1.out) hc2 hf hb rfl (blk_below HFA.out HW1.out)).mono ?_
    rintro e w2 ⟨g, mb, n, sv, rfl, hbk⟩
    have HBK := Aside0.mk (hbk.lower HW1.out)
    have q0 := pw_cell_below hbk.below (cell_book w A0 A1 A2 c0 c1 c2 l0 l1 l2).1
    clear hbk
    have FF := Aside0.mk (okB_facts hb)
    have hn5 : l0.length ≤ 5 := FF.out.2.1
    have i1 : (0 : Int) ≤ (l0.length : Int) := by omega
    have i2 : (l0.length : Int) ≤ 5 := by omega
    have hlt : ((servF l0 l1 l2).1.take l0.length).length = l0.length := by rw [List.length_take, (servF_len l1 l2 hn5).1]; omega
    have HLT := Aside0.mk hlt
    clear hlt
    go_wp2
    go_region_held3 (fun W => W.cell? ⟨w.heap.size, 0, none⟩ = some (.slice A0 l0.length c0)) (go_keep)
      ((go_at_call 64; (with_reducible refine (clone22_calls ⟨g, 3, none⟩ 5 l0.length ((servF l0 l1 l2).1.take l0.length) _ HLT.out (Kd.C_below (left_C HBK.out.cells (servF_len l1 l2 hn5).1 hn5) (below_drew (Below.refl _ _))) (by rw [HLT.out]; exact FF.out.1) (by rw [HLT.out]; omega)).mono ?_); rintro e w4 ⟨v, rfl, hR, hb4⟩; obtain ⟨Av, cv, hv, hcv, hV⟩ := R_cut (Kd.R_lower hR (base' := w.heap.size) (below_size (below_drew HBK.out.below))); rw [HLT.out] at hv hcv hV; subst hv; have q0 := pw_cell_below hb4 (a := ⟨w.heap.size, 0, none⟩) (v := .slice A0 l0.length c0) q0; have HV := Aside0.mk hV; have i3 : (l0.length : Int) ≤ (cv : Int) := (by omega); have HB4 := Aside0.mk (below_step (below_drew HBK.out.below) hb4); clear hV hR hb4 hcv))
    go_wp2
    refine bodyPost_ret (results_tmp2 rfl _ _ _) rfl ?_
    exact ⟨_, rfl, HV.out, HB4.out⟩
end Go.Proofs.YtegpepnmnlockaaDoor.PL
namespace Go.Proofs.YtegpepnmnlockaaDoor.PL
open Go.RowKit Go.Proofs.YtegpepnmnlockaaDoorW.PrintWords Go.Proofs.YtegpepnmnlockaaDoorW.PrintLast Go.Proofs.YtegpepnmnlockaaDoorW.PrintMore
set_option linter.unusedVariables false
set_option linter.unusedSimpArgs false
theorem Fates.below {w W : World} (h : Fates w) (hb : Below w.heap.size w W) : Fates W := blk_below h hb
def lack_Surely.f (l0 : List Int) (l1 : List S47) (l2 : List S57) (a1 a2 : Int) : Option (Int × Int) :=
  if Few l0 l1 l2 then (if okB l0 l1 l2 = true then (if (decide (0 ≤ a1 ∧ a1 ≤ (l0.length : Int) - 1) && decide (0 ≤ a2 ∧ a2 ≤ 100)) = true then some (comTo l2 l2.length a1 a2, 0) else some (0, 101)) else some (0, 100)) else none
set_option maxHeartbeats 8000000 in
set_option maxRecDepth 100000 in
theorem lack_Surely.calls (A0 : Option Addr) (c0 : Nat) (l0 : List Int) (A1 : Option Addr) (c1 : Nat) (l1 : List S47) (A2 : Option Addr) (c2 : Nat) (l2 : List S57) (a1 a2 : Int) (r1 : Int) (r2 : Int) (w : World)
    (h0 : Kd.C (Kd.int .i64) w A0 l0.length l0) (hc0 : l0.length ≤ c0) (h1 : Kd.C k47 w A1 l1.length l1) (hc1 : l1.length ≤ c1) (h2 : Kd.C k57 w A2 l2.length l2) (hc2 : l2.length ≤ c2) (hfa : Fates w)
    (h : lack_Surely.f l0 l1 l2 a1 a2 = some (r1, r2)) :
    Calls Tryd.prog 42 #[.agg #[.slice A0 l0.length c0, .slice A1 l1.length c1, .slice A2 l2.length c2], .int .i64 a1, .int .i64 a2] w fun e w' => e = .returned (.tuple #[.int .i64 r1, .int .i64 r2]) ∧ Below w.heap.size w w' := by
  unfold lack_Surely.f at h
  by_cases hf : Few l0 l1 l2
  case neg => rw [if_neg hf] at h; cases h
  rw [if_pos hf] at h
  have H0 := Aside0.mk h0
  have H1 := Aside0.mk h1
  have H2 := Aside0.mk h2
  have HFA := Aside0.mk hfa
  clear h0 h1 h2 hfa
  have hu26 := Tryd.underlying26
  have hu86 := Tryd.underlying86
  have W1 := below_alloc (Below.refl w.heap.size w) (.cells #[.slice A0 l0.length c0, .slice A1 l1.length c1, .slice A2 l2.length c2] 26)
  have HW1 := Aside0.mk W1
  clear W1
  have q := cell_book w A0 A1 A2 c0 c1 c2 l0 l1 l2
  have q0 := q.1
  have q1 := q.2.1
  have q2 := q.2.2
  clear q
  have hgw : IntKind.i64.wrap ((l0.length : Int) - 1) = (l0.length : Int) - 1 := by
    have h9 : (l0.length : Int) < 9000000000000000000 := hf.1
    rw [IntKind.wrap_i64]; omega
  cases hb : okB l0 l1 l2 with
  | false =>
    rw [hb] at h
    by_cases c1_ : 0 ≤ a1 ∧ a1 ≤ (l0.length : Int) - 1
    · have hw1 : lack_within.f a1 0 ((l0.length : Int) - 1) = some true := by rw [within_f, decide_eq_true c1_]
      by_cases c2_ : 0 ≤ a2 ∧ a2 ≤ 100
      · have hw2 : lack_within.f a2 0 100 = some true := by rw [within_f, decide_eq_true c2_]
        cases h
        go_enter Tryd.func42, Tryd.ntmps42
        go_upto_region 1 with (fail)
        go_region_held3 (fun W => W.cell? ⟨w.heap.size, 0, none⟩ = some (.slice A0 l0.length c0) ∧ W.cell? ⟨w.heap.size, 1, none⟩ = some (.slice A1 l1.length c1) ∧ W.cell? ⟨w.heap.size, 2, none⟩ = some (.slice A2 l2.length c2)) (go_keep)
          (first
            | (go_at_call 50; (with_reducible first | refine (lack_within.calls a1 0 ((l0.length : Int) - 1) true _ hw1).mono ?_ | refine (lack_within.calls a2 0 100 true _ hw2).mono ?_); rintro e w2 ⟨rfl, ⟨nd, rfl⟩⟩)
            | (go_at_call 46; (with_reducible refine (asked_bad A0 A1 A2 c0 c1 c2 l0 l1 l2 true _ (Kd.C_below H0.out (by repeat (first | (with_reducible exact HW1.out) | apply below_drew | apply pw_below_drewN))) hc0 (Kd.C_below H1.out (by repeat (first | (with_reducible exact HW1.out) | apply below_drew | apply pw_below_drewN))) hc1 (Kd.C_below H2.out (by repeat (first | (with_reducible exact HW1.out) | apply below_drew | apply pw_below_drewN))) hc2 hf hb).mono ?_); rintro e w4 ⟨rfl, hb4⟩; have HB4 := Aside0.mk (below_step (by repeat (first | (with_reducible exact HW1.out) | apply below_drew | apply pw_below_drewN)) hb4); have q0' := pw_cell_below hb4 (a := ⟨w.heap.size, 0, none⟩) (v := .slice A0 l0.length c0) q0; have q1' := pw_cell_below hb4 (a := ⟨w.heap.size, 1, none⟩) (v := .slice A1 l1.length c1) q1; have q2' := pw_cell_below hb4 (a := ⟨w.heap.size, 2, none⟩) (v := .slice A2 l2.length c2) q2; clear hb4))
        go_wp2
        refine bodyPost_ret (results_tmp2 rfl _ _ _) rfl ?_
        exact ⟨rfl, HB4.out⟩
      · have hw2 : lack_within.f a2 0 100 = some false := by rw [within_f, decide_eq_false c2_]
        cases h
        go_enter Tryd.func42, Tryd.ntmps42
        go_upto_region 1 with (fail)
        go_region_held3 (fun W => W.cell? ⟨w.heap.size, 0, none⟩ = some (.slice A0 l0.length c0) ∧ W.cell? ⟨w.heap.size, 1, none⟩ = some (.slice A1 l1.length c1) ∧ W.cell? ⟨w.heap.size, 2, none⟩ = some (.slice A2 l2.length c2)) (go_keep)
          (first
            | (go_at_call 50; (with_reducible first | refine (lack_within.calls a1 0 ((l0.length : Int) - 1) true _ hw1).mono ?_ | refine (lack_within.calls a2 0 100 false _ hw2).mono ?_); rintro e w2 ⟨rfl, ⟨nd, rfl⟩⟩)
            | (go_at_call 46; (with_reducible refine (asked_bad A0 A1 A2 c0 c1 c2 l0 l1 l2 false _ (Kd.C_below H0.out (by repeat (first | (with_reducible exact HW1.out) | apply below_drew | apply pw_below_drewN))) hc0 (Kd.C_below H1.out (by repeat (first | (with_reducible exact HW1.out) | apply below_drew | apply pw_below_drewN))) hc1 (Kd.C_below H2.out (by repeat (first | (with_reducible exact HW1.out) | apply below_drew | apply pw_below_drewN))) hc2 hf hb).mono ?_); rintro e w4 ⟨rfl, hb4⟩; have HB4 := Aside0.mk (below_step (by repeat (first | (with_reducible exact HW1.out) | apply below_drew | apply pw_below_drewN)) hb4); have q0' := pw_cell_below hb4 (a := ⟨w.heap.size, 0, none⟩) (v := .slice A0 l0.length c0) q0; have q1' := pw_cell_below hb4 (a := ⟨w.heap.size, 1, none⟩) (v := .slice A1 l1.length c1) q1; have q2' := pw_cell_below hb4 (a := ⟨w.heap.size, 2, none⟩) (v := .slice A2 l2.length c2) q2; clear hb4))
        go_wp2
        refine bodyPost_ret (results_tmp2 rfl _ _ _) rfl ?_
        exact ⟨rfl, HB4.out⟩
    · have hw1 : lack_within.f a1 0 ((l0.length : Int) - 1) = some false := by rw [within_f, decide_eq_false c1_]
      cases h
      go_enter Tryd.func42, Tryd.ntmps42
      go_upto_region 1 with (fail)
      refine wp_region_held_drew (S := (fun W => W.cell? ⟨w.heap.size, 0, none⟩ = some (.slice A0 l0.length c0) ∧ W.cell? ⟨w.heap.size, 1, none⟩ = some (.slice A1 l1.length c1) ∧ W.cell? ⟨w.heap.size, 2, none⟩ = some (.slice A2 l2.length c2))) (by kernel_rfl) (by go_keep) (fun hHeld => ?_)
      skip
      refine' wpAnyH_take (i := 0) (v := _) rfl (by kernel_rfl) (by kernel_rfl) (by kernel_rfl) (fun _ _ _ h => h) (Or.inl ⟨by rfl, ?hy1_0⟩) (by assumption) ?rest1_0
      case hy1_0 => (intro W hSw; (try dsimp only at hSw); go_simp; try (with_reducible rfl))
      try simp only [Act.put, List.setIfInBounds_toArray, List.set_cons_zero, List.set_cons_succ]
      refine' wpAnyH_take (i := 1) (v := _) rfl (by kernel_rfl) (by kernel_rfl) (by kernel_rfl) (fun _ _ _ h => h) (Or.inl ⟨by rfl, ?hy1_1⟩) (by assumption) ?rest1_1
      case hy1_1 => (intro W hSw; (try dsimp only at hSw); go_simp; try (with_reducible rfl))
      try simp only [Act.put, List.setIfInBounds_toArray, List.set_cons_zero, List.set_cons_succ]
      refine' wpAnyH_take (i := 2) (v := _) rfl (by kernel_rfl) (by kernel_rfl) (by kernel_rfl) (fun _ _ _ h => h) (Or.inl ⟨by rfl, ?hy1_2⟩) (by assumption) ?rest1_2
      case hy1_2 => (intro W hSw; (try dsimp only at hSw); go_simp; try (with_reducible rfl))
      try simp only [Act.put, List.setIfInBounds_toArray, List.set_cons_zero, List.set_cons_succ]
      refine' wpAnyH_take (i := 3) (v := _) rfl (by kernel_rfl) (by kernel_rfl) (by kernel_rfl) (fun _ _ _ h => h) (Or.inl ⟨by rfl, ?hy1_3⟩) (by assumption) ?rest1_3
      case hy1_3 => (intro W hSw; (try dsimp only at hSw); go_simp; try (with_reducible rfl))
      try simp only [Act.put, List.setIfInBounds_toArray, List.set_cons_zero, List.set_cons_succ]
      refine' wpAnyH_take (i := 4) (v := _) rfl (by kernel_rfl) (by kernel_rfl) (by kernel_rfl) (fun _ _ _ h => h) (Or.inl ⟨by rfl, ?hy1_4⟩) (by assumption) ?rest1_4
      case hy1_4 => (intro W hSw; (try dsimp only at hSw); go_simp; try (with_reducible rfl))
      try simp only [Act.put, List.setIfInBounds_toArray, List.set_cons_zero, List.set_cons_succ]
      refine' wpAnyH_take (i := 5) (v := _) rfl (by kernel_rfl) (by kernel_rfl) (by kernel_rfl) (fun _ _ _ h => h) (Or.inl ⟨by rfl, ?hy1_5⟩) (by assumption) ?rest1_5
      case hy1_5 => (intro W hSw; (try dsimp only at hSw); go_simp; try (with_reducible rfl))
      try simp only [Act.put, List.setIfInBounds_toArray, List.set_cons_zero, List.set_cons_succ]
      refine wpAnyH_ready (rs := [6]) (by kernel_rfl) (by simp) ?_
      refine AllReadyH.cons rfl (fun K hK => ?_) AllReadyH.nil
      go_simp
      refine (lack_within.calls a1 0 ((l0.length : Int) - 1) false _ hw1).mono ?_
      rintro e w2 ⟨rfl, ⟨nd, rfl⟩⟩
      refine hK.out _ _ (by go_keep) (fun hHeld1_6 => ?_)
      clear hK K
      try simp only [Act.put, List.setIfInBounds_toArray, List.set_cons_zero, List.set_cons_succ]
      refine' wpAnyH_take (i := 7) (v := _) rfl (by kernel_rfl) (by kernel_rfl) (by kernel_rfl) (fun _ _ _ h => h) (Or.inl ⟨by rfl, ?hy1_7⟩) (by assumption) ?rest1_7
      case hy1_7 => (intro W hSw; (try dsimp only at hSw); go_simp; try (with_reducible rfl))
      try simp only [Act.put, List.setIfInBounds_toArray, List.set_cons_zero, List.set_cons_succ]
      refine wpAnyH_take (i := 8) (v := undef) rfl (by kernel_rfl) (by kernel_rfl) (by kernel_rfl) (fun _ _ _ h => h) (Or.inr ⟨by rfl, rfl⟩) (by assumption) ?_
      try simp only [Act.put, List.setIfInBounds_toArray, List.set_cons_zero, List.set_cons_succ]
      refine wpAnyH_take (i := 9) (v := undef) rfl (by kernel_rfl) (by kernel_rfl) (by kernel_rfl) (fun _ _ _ h => h) (Or.inr ⟨by rfl, rfl⟩) (by assumption) ?_
      try simp only [Act.put, List.setIfInBounds_toArray, List.set_cons_zero, List.set_cons_succ]
      refine' wpAnyH_take (i := 10) (v := _) rfl (by kernel_rfl) (by kernel_rfl) (by kernel_rfl) (fun _ _ _ h => h) (Or.inl ⟨by rfl, ?hy1_10⟩) (by assumption) ?rest1_10
      case hy1_10 => (intro W hSw; (try dsimp only at hSw); go_simp; try (with_reducible rfl))
      try simp only [Act.put, List.setIfInBounds_toArray, List.set_cons_zero, List.set_cons_succ]
      refine wpAnyH_ready (rs := [11]) (by kernel_rfl) (by simp) ?_
      refine AllReadyH.cons rfl (fun K hK => ?_) AllReadyH.nil
      go_simp
      refine (asked_bad A0 A1 A2 c0 c1 c2 l0 l1 l2 false _ (Kd.C_below H0.out (by repeat (first | (with_reducible exact HW1.out) | apply below_drew | apply pw_below_drewN))) hc0 (Kd.C_below H1.out (by repeat (first | (with_reducible exact HW1.out) | apply below_drew | apply pw_below_drewN))) hc1 (Kd.C_below H2.out (by repeat (first | (with_reducible exact HW1.out) | apply below_drew | apply pw_below_drewN))) hc2 hf hb).mono ?_
      rintro e w4 ⟨rfl, hb4⟩
      have HB4 := Aside0.mk (below_step (by repeat (first | (with_reducible exact HW1.out) | apply below_drew | apply pw_below_drewN)) hb4)
      have q0' := pw_cell_below hb4 (a := ⟨w.heap.size, 0, none⟩) (v := .slice A0 l0.length c0) q0
      have q1' := pw_cell_below hb4 (a := ⟨w.heap.size, 1, none⟩) (v := .slice A1 l1.length c1) q1
      have q2' := pw_cell_below hb4 (a := ⟨w.heap.size, 2, none⟩) (v := .slice A2 l2.length c2) q2
      clear hb4
      refine hK.out _ _ (by go_keep) (fun hHeld1_11 => ?_)
      clear hK K
      try simp only [Act.put, List.setIfInBounds_toArray, List.set_cons_zero, List.set_cons_succ]
      refine' wpAnyH_take (i := 12) (v := _) rfl (by kernel_rfl) (by kernel_rfl) (by kernel_rfl) (fun _ _ _ h => h) (Or.inl ⟨by rfl, ?hy1_12⟩) (by assumption) ?rest1_12
      case hy1_12 => (intro W hSw; (try dsimp only at hSw); go_simp; try (with_reducible rfl))
      try simp only [Act.put, List.setIfInBounds_toArray, List.set_cons_zero, List.set_cons_succ]
      refine' wpAnyH_take (i := 13) (v := _) rfl (by kernel_rfl) (by kernel_rfl) (by kernel_rfl) (fun _ _ _ h => h) (Or.inl ⟨by rfl, ?hy1_13⟩) (by assumption) ?rest1_13
      case hy1_13 => (intro W hSw; (try dsimp only at hSw); go_simp; try (with_reducible rfl))
      try simp only [Act.put, List.setIfInBounds_toArray, List.set_cons_zero, List.set_cons_succ]
      refine' wpAnyH_take (i := 14) (v := _) rfl (by kernel_rfl) (by kernel_rfl) (by kernel_rfl) (fun _ _ _ h => h) (Or.inl ⟨by rfl, ?hy1_14⟩) (by assumption) ?rest1_14
      case hy1_14 => (intro W hSw; (try dsimp only at hSw); go_simp; try (with_reducible rfl))
      try simp only [Act.put, List.setIfInBounds_toArray, List.set_cons_zero, List.set_cons_succ]
      refine' wpAnyH_take (i := 15) (v := _) rfl (by kernel_rfl) (by kernel_rfl) (by kernel_rfl) (fun _ _ _ h => h) (Or.inl ⟨by rfl, ?hy1_15⟩) (by assumption) ?rest1_15
      case hy1_15 => (intro W hSw; (try dsimp only at hSw); go_simp; try (with_reducible rfl))
      try simp only [Act.put, List.setIfInBounds_toArray, List.set_cons_zero, List.set_cons_succ]
      refine' wpAnyH_take (i := 16) (v := _) rfl (by kernel_rfl) (by kernel_rfl) (by kernel_rfl) (fun _ _ _ h => h) (Or.inl ⟨by rfl, ?hy1_16⟩) (by assumption) ?rest1_16
      case hy1_16 => (intro W hSw; (try dsimp only at hSw); go_simp; try (with_reducible rfl))
      try simp only [Act.put, List.setIfInBounds_toArray, List.set_cons_zero, List.set_cons_succ]
      refine wpAnyH_done (by kernel_rfl) ?_ _
      go_wp2
      refine bodyPost_ret (results_tmp2 rfl _ _ _) rfl ?_
      exact ⟨rfl, HB4.out⟩
  | true =>
    rw [hb] at h
    by_cases c1_ : 0 ≤ a1 ∧ a1 ≤ (l0.length : Int) - 1
    · have hw1 : lack_within.f a1 0 ((l0.length : Int) - 1) = some true := by rw [within_f, decide_eq_true c1_]
      by_cases c2_ : 0 ≤ a2 ∧ a2 ≤ 100
      · have hw2 : lack_within.f a2 0 100 = some true := by rw [within_f, decide_eq_true c2_]
        rw [decide_eq_true c1_, decide_eq_true c2_] at h
        cases h
        go_enter Tryd.func42, Tryd.ntmps42
        go_upto_region 1 with (fail)
        go_region_held3 (fun W => W.cell? ⟨w.heap.size, 0, none⟩ = some (.slice A0 l0.length c0) ∧ W.cell? ⟨w.heap.size, 1, none⟩ = some (.slice A1 l1.length c1) ∧ W.cell? ⟨w.heap.size, 2, none⟩ = some (.slice A2 l2.length c2)) (go_keep)
          (first
            | (go_at_call 50; (with_reducible first | refine (lack_within.calls a1 0 ((l0.length : Int) - 1) true _ hw1).mono ?_ | refine (lack_within.calls a2 0 100 true _ hw2).mono ?_); rintro e w2 ⟨rfl, ⟨nd, rfl⟩⟩)
            | (go_at_call 46; (with_reducible refine (asked_ok A0 A1 A2 c0 c1 c2 l0 l1 l2 true _ (Kd.C_below H0.out (by repeat (first | (with_reducible exact HW1.out) | apply below_drew | apply pw_below_drewN))) hc0 (Kd.C_below H1.out (by repeat (first | (with_reducible exact HW1.out) | apply below_drew | apply pw_below_drewN))) hc1 (Kd.C_below H2.out (by repeat (first | (with_reducible exact HW1.out) | apply below_drew | apply pw_below_drewN))) hc2 hf hb rfl (Fates.below HFA.out (by repeat (first | (with_reducible exact HW1.out) | apply below_drew | apply pw_below_drewN)))).mono ?_); rintro e w4 ⟨g, mb, n, sv, rfl, hbk⟩; have HBK := Aside0.mk (hbk.lower (by repeat (first | (with_reducible exact HW1.out) | apply below_drew | apply pw_below_drewN))); have q0' := pw_cell_below hbk.below (a := ⟨w.heap.size, 0, none⟩) (v := .slice A0 l0.length c0) q0; have q1' := pw_cell_below hbk.below (a := ⟨w.heap.size, 1, none⟩) (v := .slice A1 l1.length c1) q1; have q2' := pw_cell_below hbk.below (a := ⟨w.heap.size, 2, none⟩) (v := .slice A2 l2.length c2) q2; clear hbk))
        have p8 := (blk_cell HBK.out.cells 8).trans (show _ = some (Value.map (some mb)) from rfl)
        have h5 := (okB_facts hb).2.1
        have hlk := SpotMap.look HBK.out.map (g := a1) (d := a2) (wf64 (by omega) (by omega)) (wf64 (by omega) (by omega))
        unfold spotV at hlk
        go_wp2
        refine bodyPost_ret (results_tmp2 rfl _ _ _) rfl ?_
        exact ⟨rfl, HBK.out.below⟩
      · have hw2 : lack_within.f a2 0 100 = some false := by rw [within_f, decide_eq_false c2_]
        rw [decide_eq_true c1_, decide_eq_false c2_] at h
        cases h
        go_enter Tryd.func42, Tryd.ntmps42
        go_upto_region 1 with (fail)
        go_region_held3 (fun W => W.cell? ⟨w.heap.size, 0, none⟩ = some (.slice A0 l0.length c0) ∧ W.cell? ⟨w.heap.size, 1, none⟩ = some (.slice A1 l1.length c1) ∧ W.cell? ⟨w.heap.size, 2, none⟩ = some (.slice A2 l2.length c2)) (go_keep)
          (first
            | (go_at_call 50; (with_reducible first | refine (lack_within.calls a1 0 ((l0.length : Int) - 1) true _ hw1).mono ?_ | refine (lack_within.calls a2 0 100 false _ hw2).mono ?_); rintro e w2 ⟨rfl, ⟨nd, rfl⟩⟩)
            | (go_at_call 46; (with_reducible refine (asked_not A0 A1 A2 c0 c1 c2 l0 l1 l2 false _ (Kd.C_below H0.out (by repeat (first | (with_reducible exact HW1.out) | apply below_drew | apply pw_below_drewN))) hc0 (Kd.C_below H1.out (by repeat (first | (with_reducible exact HW1.out) | apply below_drew | apply pw_below_drewN))) hc1 (Kd.C_below H2.out (by repeat (first | (with_reducible exact HW1.out) | apply below_drew | apply pw_below_drewN))) hc2 hf hb rfl).mono ?_); rintro e w4 ⟨rfl, hb4⟩; have HB4 := Aside0.mk (below_step (by repeat (first | (with_reducible exact HW1.out) | apply below_drew | apply pw_below_drewN)) hb4); have q0' := pw_cell_below hb4 (a := ⟨w.heap.size, 0, none⟩) (v := .slice A0 l0.length c0) q0; have q1' := pw_cell_below hb4 (a := ⟨w.heap.size, 1, none⟩) (v := .slice A1 l1.length c1) q1; have q2' := pw_cell_below hb4 (a := ⟨w.heap.size, 2, none⟩) (v := .slice A2 l2.length c2) q2; clear hb4))
        go_wp2
        refine bodyPost_ret (results_tmp2 rfl _ _ _) rfl ?_
        exact ⟨rfl, HB4.out⟩
    · have hw1 : lack_within.f a1 0 ((l0.length : Int) - 1) = some false := by rw [within_f, decide_eq_false c1_]
      rw [decide_eq_false c1_] at h
      cases h
      go_enter Tryd.func42, Tryd.ntmps42
      go_upto_region 1 with (fail)
      refine wp_region_held_drew (S := (fun W => W.cell? ⟨w.heap.size, 0, none⟩ = some (.slice A0 l0.length c0) ∧ W.cell? ⟨w.heap.size, 1, none⟩ = some (.slice A1 l1.length c1) ∧ W.cell? ⟨w.heap.size, 2, none⟩ = some (.slice A2 l2.length c2))) (by kernel_rfl) (by go_keep) (fun hHeld => ?_)
      skip
      refine' wpAnyH_take (i := 0) (v := _) rfl (by kernel_rfl) (by kernel_rfl) (by kernel_rfl) (fun _ _ _ h => h) (Or.inl ⟨by rfl, ?hy2_0⟩) (by assumption) ?rest2_0
      case hy2_0 => (intro W hSw; (try dsimp only at hSw); go_simp; try (with_reducible rfl))
      try simp only [Act.put, List.setIfInBounds_toArray, List.set_cons_zero, List.set_cons_succ]
      refine' wpAnyH_take (i := 1) (v := _) rfl (by kernel_rfl) (by kernel_rfl) (by kernel_rfl) (fun _ _ _ h => h) (Or.inl ⟨by rfl, ?hy2_1⟩) (by assumption) ?rest2_1
      case hy2_1 => (intro W hSw; (try dsimp only at hSw); go_simp; try (with_reducible rfl))
      try simp only [Act.put, List.setIfInBounds_toArray, List.set_cons_zero, List.set_cons_succ]
      refine' wpAnyH_take (i := 2) (v := _) rfl (by kernel_rfl) (by kernel_rfl) (by kernel_rfl) (fun _ _ _ h => h) (Or.inl ⟨by rfl, ?hy2_2⟩) (by assumption) ?rest2_2
      case hy2_2 => (intro W hSw; (try dsimp only at hSw); go_simp; try (with_reducible rfl))
      try simp only [Act.put, List.setIfInBounds_toArray, List.set_cons_zero, List.set_cons_succ]
      refine' wpAnyH_take (i := 3) (v := _) rfl (by kernel_rfl) (by kernel_rfl) (by kernel_rfl) (fun _ _ _ h => h) (Or.inl ⟨by rfl, ?hy2_3⟩) (by assumption) ?rest2_3
      case hy2_3 => (intro W hSw; (try dsimp only at hSw); go_simp; try (with_reducible rfl))
      try simp only [Act.put, List.setIfInBounds_toArray, List.set_cons_zero, List.set_cons_succ]
      refine' wpAnyH_take (i := 4) (v := _) rfl (by kernel_rfl) (by kernel_rfl) (by kernel_rfl) (fun _ _ _ h => h) (Or.inl ⟨by rfl, ?hy2_4⟩) (by assumption) ?rest2_4
      case hy2_4 => (intro W hSw; (try dsimp only at hSw); go_simp; try (with_reducible rfl))
      try simp only [Act.put, List.setIfInBounds_toArray, List.set_cons_zero, List.set_cons_succ]
      refine' wpAnyH_take (i := 5) (v := _) rfl (by kernel_rfl) (by kernel_rfl) (by kernel_rfl) (fun _ _ _ h => h) (Or.inl ⟨by rfl, ?hy2_5⟩) (by assumption) ?rest2_5
      case hy2_5 => (intro W hSw; (try dsimp only at hSw); go_simp; try (with_reducible rfl))
      try simp only [Act.put, List.setIfInBounds_toArray, List.set_cons_zero, List.set_cons_succ]
      refine wpAnyH_ready (rs := [6]) (by kernel_rfl) (by simp) ?_
      refine AllReadyH.cons rfl (fun K hK => ?_) AllReadyH.nil
      go_simp
      refine (lack_within.calls a1 0 ((l0.length : Int) - 1) false _ hw1).mono ?_
      rintro e w2 ⟨rfl, ⟨nd, rfl⟩⟩
      refine hK.out _ _ (by go_keep) (fun hHeld2_6 => ?_)
      clear hK K
      try simp only [Act.put, List.setIfInBounds_toArray, List.set_cons_zero, List.set_cons_succ]
      refine' wpAnyH_take (i := 7) (v := _) rfl (by kernel_rfl) (by kernel_rfl) (by kernel_rfl) (fun _ _ _ h => h) (Or.inl ⟨by rfl, ?hy2_7⟩) (by assumption) ?rest2_7
      case hy2_7 => (intro W hSw; (try dsimp only at hSw); go_simp; try (with_reducible rfl))
      try simp only [Act.put, List.setIfInBounds_toArray, List.set_cons_zero, List.set_cons_succ]
      refine wpAnyH_take (i := 8) (v := undef) rfl (by kernel_rfl) (by kernel_rfl) (by kernel_rfl) (fun _ _ _ h => h) (Or.inr ⟨by rfl, rfl⟩) (by assumption) ?_
      try simp only [Act.put, List.setIfInBounds_toArray, List.set_cons_zero, List.set_cons_succ]
      refine wpAnyH_take (i := 9) (v := undef) rfl (by kernel_rfl) (by kernel_rfl) (by kernel_rfl) (fun _ _ _ h => h) (Or.inr ⟨by rfl, rfl⟩) (by assumption) ?_
      try simp only [Act.put, List.setIfInBounds_toArray, List.set_cons_zero, List.set_cons_succ]
      refine' wpAnyH_take (i := 10) (v := _) rfl (by kernel_rfl) (by kernel_rfl) (by kernel_rfl) (fun _ _ _ h => h) (Or.inl ⟨by rfl, ?hy2_10⟩) (by assumption) ?rest2_10
      case hy2_10 => (intro W hSw; (try dsimp only at hSw); go_simp; try (with_reducible rfl))
      try simp only [Act.put, List.setIfInBounds_toArray, List.set_cons_zero, List.set_cons_succ]
      refine wpAnyH_ready (rs := [11]) (by kernel_rfl) (by simp) ?_
      refine AllReadyH.cons rfl (fun K hK => ?_) AllReadyH.nil
      go_simp
      refine (asked_not A0 A1 A2 c0 c1 c2 l0 l1 l2 false _ (Kd.C_below H0.out (by repeat (first | (with_reducible exact HW1.out) | apply below_drew | apply pw_below_drewN))) hc0 (Kd.C_below H1.out (by repeat (first | (with_reducible exact HW1.out) | apply below_drew | apply pw_below_drewN))) hc1 (Kd.C_below H2.out (by repeat (first | (with_reducible exact HW1.out) | apply below_drew | apply pw_below_drewN))) hc2 hf hb rfl).mono ?_
      rintro e w4 ⟨rfl, hb4⟩
      have HB4 := Aside0.mk (below_step (by repeat (first | (with_reducible exact HW1.out) | apply below_drew | apply pw_below_drewN)) hb4)
      have q0' := pw_cell_below hb4 (a := ⟨w.heap.size, 0, none⟩) (v := .slice A0 l0.length c0) q0
      have q1' := pw_cell_below hb4 (a := ⟨w.heap.size, 1, none⟩) (v := .slice A1 l1.length c1) q1
      have q2' := pw_cell_below hb4 (a := ⟨w.heap.size, 2, none⟩) (v := .slice A2 l2.length c2) q2
      clear hb4
      refine hK.out _ _ (by go_keep) (fun hHeld2_11 => ?_)
      clear hK K
      try simp only [Act.put, List.setIfInBounds_toArray, List.set_cons_zero, List.set_cons_succ]
      refine' wpAnyH_take (i := 12) (v := _) rfl (by kernel_rfl) (by kernel_rfl) (by kernel_rfl) (fun _ _ _ h => h) (Or.inl ⟨by rfl, ?hy2_12⟩) (by assumption) ?rest2_12
      case hy2_12 => (intro W hSw; (try dsimp only at hSw); go_simp; try (with_reducible rfl))
      try simp only [Act.put, List.setIfInBounds_toArray, List.set_cons_zero, List.set_cons_succ]
      refine' wpAnyH_take (i := 13) (v := _) rfl (by kernel_rfl) (by kernel_rfl) (by kernel_rfl) (fun _ _ _ h => h) (Or.inl ⟨by rfl, ?hy2_13⟩) (by assumption) ?rest2_13
      case hy2_13 => (intro W hSw; (try dsimp only at hSw); go_simp; try (with_reducible rfl))
      try simp only [Act.put, List.setIfInBounds_toArray, List.set_cons_zero, List.set_cons_succ]
      refine' wpAnyH_take (i := 14) (v := _) rfl (by kernel_rfl) (by kernel_rfl) (by kernel_rfl) (fun _ _ _ h => h) (Or.inl ⟨by rfl, ?hy2_14⟩) (by assumption) ?rest2_14
      case hy2_14 => (intro W hSw; (try dsimp only at hSw); go_simp; try (with_reducible rfl))
      try simp only [Act.put, List.setIfInBounds_toArray, List.set_cons_zero, List.set_cons_succ]
      refine' wpAnyH_take (i := 15) (v := _) rfl (by kernel_rfl) (by kernel_rfl) (by kernel_rfl) (fun _ _ _ h => h) (Or.inl ⟨by rfl, ?hy2_15⟩) (by assumption) ?rest2_15
      case hy2_15 => (intro W hSw; (try dsimp only at hSw); go_simp; try (with_reducible rfl))
      try simp only [Act.put, List.setIfInBounds_toArray, List.set_cons_zero, List.set_cons_succ]
      refine' wpAnyH_take (i := 16) (v := _) rfl (by kernel_rfl) (by kernel_rfl) (by kernel_rfl) (fun _ _ _ h => h) (Or.inl ⟨by rfl, ?hy2_16⟩) (by assumption) ?rest2_16
      case hy2_16 => (intro W hSw; (try dsimp only at hSw); go_simp; try (with_reducible rfl))
      try simp only [Act.put, List.setIfInBounds_toArray, List.set_cons_zero, List.set_cons_succ]
      refine wpAnyH_done (by kernel_rfl) ?_ _
      go_wp2
      refine bodyPost_ret (results_tmp2 rfl _ _ _) rfl ?_
      exact ⟨rfl, HB4.out⟩
end Go.Proofs.YtegpepnmnlockaaDoor.PL
namespace Go.Proofs.YtegpepnmnlockaaDoor.PL
open Go.RowKit Go.Proofs.YtegpepnmnlockaaDoorW.PrintWords Go.Proofs.YtegpepnmnlockaaDoorW.PrintLast Go.Proofs.YtegpepnmnlockaaDoorW.PrintMore
set_option linter.unusedVariables false
set_option linter.unusedSimpArgs false
/-- What becomes of a line is told by small numbers. -/
def OkShare (s : S49) : Prop := (0 ≤ s.f0 ∧ s.f0 ≤ 20) ∧ (0 ≤ s.f1 ∧ s.f1 ≤ 20) ∧ (0 ≤ s.f2 ∧ s.f2 ≤ 20) ∧ (0 ≤ s.f3 ∧ s.f3 ≤ 20)
theorem shareF_ok (l1 : List S47) (F : Int → Int → Int) {x : S47} {left : List Int} (sh : List S49) (hx : OkLine x) (h : ∀ y ∈ left, 0 ≤ y ∧ y ≤ 50) :
    OkShare (shareF l1 F x left sh) ∧ (shareF l1 F x left sh).f0 + (shareF l1 F x left sh).f1 + (shareF l1 F x left sh).f2 + (shareF l1 F x left sh).f3 = x.f2 ∧ ∀ y ∈ left2F x left, 0 ≤ y ∧ y ≤ 50 := by
  obtain ⟨a1, a2, a3, a4, _⟩ := hx
  have b1 := sentF_bd (x := x) h (by omega) a1
  have b2 := instOf_bd (ins := x.f4) (rest := x.f2 - sentF x left) (left1F_ok (x := x) h (by omega) a1) (by omega)
  have b3 := listedF_le l1 x.f1 sh F (wantF x left).toNat
  have b4 : wantF x left = x.f2 - sentF x left - instOf x.f4 (x.f2 - sentF x left) (left1F x left) := rfl
  refine ⟨?_, ?_, leftOf_ok (left1F_ok (x := x) h (by omega) a1) (by omega)⟩
  · simp only [OkShare, shareF, instF]
    generalize hL : listedF l1 x.f1 sh F (wantF x left).toNat = L at *
    omega
  · simp only [shareF, instF]
    omega
theorem serveF_ok (l1 : List S47) (F : Int → Int → Int) (hl : ∀ x ∈ l1, OkLine x) : ∀ (d k : Nat) (s : List Int × List S49), k + d = l1.length → (∀ y ∈ s.1, 0 ≤ y ∧ y ≤ 50) → (∀ y ∈ s.2, OkShare y) →
    (∀ y ∈ (serveF l1 F d k s).1, 0 ≤ y ∧ y ≤ 50) ∧ (∀ y ∈ (serveF l1 F d k s).2, OkShare y)
  | 0, k, s, _, h1, h2 => ⟨h1, h2⟩
  | d + 1, k, s, hk, h1, h2 => by
    have hx : OkLine (rd_T47 l1 k) := by
      unfold rd_T47
      rw [Int.toNat_natCast, List.getD_eq_getElem?_getD, List.getElem?_eq_getElem (by omega)]
      exact hl _ (List.getElem_mem _)
    have h := shareF_ok l1 F s.2 hx h1
    refine serveF_ok l1 F hl d (k + 1) _ (by omega) h.2.2 ?_
    intro y hy
    rcases List.mem_append.1 hy with hy | hy
    · exact h2 y hy
    · rw [List.mem_singleton.1 hy]; exact h.1
theorem left0_ok {l0 : List Int} (h : ∀ x ∈ l0, 0 ≤ x ∧ x ≤ 50) : ∀ x ∈ left0 l0, 0 ≤ x ∧ x ≤ 50 := fun x hx => by
  rcases List.mem_append.1 hx with hx | hx
  · exact h x hx
  · rw [List.eq_of_mem_replicate hx]; omega
theorem servF_ok {l0 : List Int} {l1 : List S47} {l2 : List S57} (h : okB l0 l1 l2 = true) : (∀ y ∈ (servF l0 l1 l2).1, 0 ≤ y ∧ y ≤ 50) ∧ (∀ y ∈ (servF l0 l1 l2).2, OkShare y) := by
  have f := okB_facts h
  exact serveF_ok l1 _ (fun x hx => okLine_of f.2.1 (f.2.2.2.2.2.2.1 x hx)) l1.length 0 _ (by omega) (left0_ok f.2.2.2.2.2.1) (fun y hy => by simp at hy)
/-- Of how many pieces something is told, of each good, of the first i lines. -/
def missRow (l1 : List S47) (sh : List S49) (f : S49 → Int) (n : Nat) : Nat → List Int
  | 0 => List.replicate n 0
  | i + 1 => (missRow l1 sh f n i).set (rd_T47 l1 i).f1.toNat (rd (missRow l1 sh f n i) (rd_T47 l1 i).f1 + f (rd_T49 sh i))
theorem missRow_len (l1 : List S47) (sh : List S49) (f : S49 → Int) (n : Nat) : ∀ i, (missRow l1 sh f n i).length = n
  | 0 => by simp [missRow]
  | i + 1 => by rw [missRow, List.length_set, missRow_len l1 sh f n i]
theorem rd_bds {l : List Int} {m : Int} (h : ∀ x ∈ l, 0 ≤ x ∧ x ≤ m) (hm : 0 ≤ m) (g : Int) : 0 ≤ rd l g ∧ rd l g ≤ m := by
  unfold rd
  rw [List.getD_eq_getElem?_getD]
  cases he : l[g.toNat]? with
  | none => simp; omega
  | some v => exact h v (List.mem_of_getElem? he)
theorem missRow_bd (l1 : List S47) (sh : List S49) (f : S49 → Int) (n : Nat) (hf : ∀ i : Nat, i < sh.length → 0 ≤ f (rd_T49 sh i) ∧ f (rd_T49 sh i) ≤ 20) : ∀ i, i ≤ sh.length → ∀ x ∈ missRow l1 sh f n i, 0 ≤ x ∧ x ≤ 20 * (i : Int)
  | 0, _, x, hx => by rw [missRow] at hx; rw [List.eq_of_mem_replicate hx]; omega
  | i + 1, hi, x, hx => by
    have ih := missRow_bd l1 sh f n hf i (by omega)
    have h2 := hf i (by omega)
    rw [missRow] at hx
    rcases List.mem_or_eq_of_mem_set hx with hx | rfl
    · have := ih x hx; omega
    · have := rd_bds ih (by omega) (rd_T47 l1 i).f1
      omega
theorem okB_line {l0 : List Int} {l1 : List S47} {l2 : List S57} (h : okB l0 l1 l2 = true) {i : Nat} (hi : i < l1.length) : okLine l0.length (rd_T47 l1 i) := by
  have f := (okB_facts h).2.2.2.2.2.2.1
  unfold rd_T47
  rw [Int.toNat_natCast, List.getD_eq_getElem?_getD, List.getElem?_eq_getElem hi]
  exact f _ (List.getElem_mem _)
theorem okB_del {l0 : List Int} {l1 : List S47} {l2 : List S57} (h : okB l0 l1 l2 = true) {i : Nat} (hi : i < l2.length) : okDel l0.length (rd_T57 l2 i) := by
  have f := (okB_facts h).2.2.2.2.2.2.2
  unfold rd_T57
  rw [Int.toNat_natCast, List.getD_eq_getElem?_getD, List.getElem?_eq_getElem hi]
  exact f _ (List.getElem_mem _)
theorem nums_V {w : World} {p base n : Nat} {xs : List Int} (h : w.heap[p]? = some (.cells (nums .i64 xs).toArray 3 (0, 0))) (hn : xs.length = n) (hb : base ≤ p) (hm : n ≤ 1000) : Kd.V (Kd.int .i64) 3 w base (fun k => base ≤ k) (.slice (some ⟨p, 0, none⟩) n n) xs := by
  subst hn
  have he : ∀ xs : List Int, (xs.flatMap fun x => [Value.int .i64 x]) = nums .i64 xs := fun xs => by
    induction xs with
    | nil => rfl
    | cons x xs ih => rw [List.flatMap_cons, ih]; rfl
  have hR : Kd.R (Kd.int .i64) 3 w base (fun _ => True) (.slice (some ⟨p, 0, none⟩) xs.length xs.length) xs := by
    refine flatI.R ?_ _ (fun _ _ => trivial)
    rw [he]
    have hl : (nums .i64 xs).length = xs.length := by simp [nums]
    have h1 : (Kd.int .i64).sz = 1 := rfl
    rw [h1]
    exact ⟨by rw [hl, Nat.mul_one], Or.inr ⟨p, xs.length, (nums .i64 xs).toArray, rfl, hb, h, Nat.le_refl _, by simp only [maxLen]; omega, by rw [List.size_toArray, hl, Nat.mul_one], by rw [Nat.mul_one, ← hl]; exact List.take_length⟩⟩
  obtain ⟨A, c, hv, _, hV⟩ := R_cut hR
  cases hv
  exact hV
def lack_Missing.f (l0 : List Int) (l1 : List S47) (l2 : List S57) : Option (List Int × List Int × Int) :=
  if Few l0 l1 l2 then (if okB l0 l1 l2 = true then some (missRow l1 (servF l0 l1 l2).2 S49.f2 l0.length l1.length, missRow l1 (servF l0 l1 l2).2 S49.f3 l0.length l1.length, 0) else some ([], [], 100)) else none
theorem made_nums (m : Nat) : madeCells #[Value.int .i64 0] m = (nums .i64 (List.replicate m 0)).toArray := by
  have hl : (madeCells #[Value.int .i64 0] m).toList = nums .i64 (List.replicate m 0) := by
    apply List.ext_getElem
    · simp [nums, madeCells]
    · intro i h1 h2
      simp [nums, madeCells, Nat.mod_one]
  rw [← hl]
theorem nums_cell {w : World} {p : Nat} {xs : List Int} (h : w.heap[p]? = some (.cells (nums .i64 xs).toArray 3 (0, 0))) {i : Int} (h0 : 0 ≤ i) (h1 : i < xs.length) : w.cell? ⟨p, i.toNat, none⟩ = some (.int .i64 (rd xs i)) := by
  rw [blk_cell h]
  have hi : i.toNat < xs.length := by omega
  simp [nums, rd, hi]
theorem nums_set (xs : List Int) (i : Nat) (v : Int) : (nums .i64 xs).toArray.setIfInBounds i (.int .i64 v) = (nums .i64 (xs.set i v)).toArray := by
  simp [nums, List.map_set]
set_option maxHeartbeats 8000000 in
set_option maxRecDepth 100000 in
theorem lack_Missing.calls (A0 : Option Addr) (c0 : Nat) (l0 : List Int) (A1 : Option Addr) (c1 : Nat) (l1 : List S47) (A2 : Option Addr) (c2 : Nat) (l2 : List S57) (r1 r2 : List Int) (r3 : Int) (w : World)
    (h0 : Kd.C (Kd.int .i64) w A0 l0.length l0) (hc0 : l0.length ≤ c0) (h1 : Kd.C k47 w A1 l1.length l1) (hc1 : l1.length ≤ c1) (h2 : Kd.C k57 w A2 l2.length l2) (hc2 : l2.length ≤ c2) (hfa : Fates w)
    (h : lack_Missing.f l0 l1 l2 = some (r1, r2, r3)) :
    Calls Tryd.prog 14 #[.agg #[.slice A0 l0.length c0, .slice A1 l1.length c1, .slice A2 l2.length c2]] w fun e w' => ∃ v1_ v2_ : Value, e = .returned (.tuple #[v1_, v2_, .int .i64 r3]) ∧ Kd.V (Kd.int .i64) 3 w' w.heap.size (fun k_ => w.heap.size ≤ k_) v1_ r1 ∧ Kd.V (Kd.int .i64) 3 w' w.heap.size (fun k_ => w.heap.size ≤ k_) v2_ r2 ∧ Below w.heap.size w w' := by
  unfold lack_Missing.f at h
  by_cases hf : Few l0 l1 l2
  case neg => rw [if_neg hf] at h; cases h
  rw [if_pos hf] at h
  have H0 := Aside0.mk h0
  have H1 := Aside0.mk h1
  have H2 := Aside0.mk h2
  have HFA := Aside0.mk hfa
  clear h0 h1 h2 hfa
  have hu26 := Tryd.underlying26
  have hu86 := Tryd.underlying86
  have W1 := below_alloc (Below.refl w.heap.size w) (.cells #[.slice A0 l0.length c0, .slice A1 l1.length c1, .slice A2 l2.length c2] 26)
  have HW1 := Aside0.mk W1
  clear W1
  cases hb : okB l0 l1 l2 with
  | false =>
    rw [hb] at h
    cases h
    go_enter Tryd.func14, Tryd.ntmps14
    go_wp2_with (fail)
    refine (asked_bad A0 A1 A2 c0 c1 c2 l0 l1 l2 true _ (Kd.C_below H0.out HW1.out) hc0 (Kd.C_below H1.out HW1.out) hc1 (Kd.C_below H2.out HW1.out) hc2 hf hb).mono ?_
    rintro e w2 ⟨rfl, hb2⟩
    have HB2 := Aside0.mk (below_step HW1.out hb2)
    clear hb2
    go_wp2
    refine bodyPost_ret (results_tmp3 rfl _ _ _) rfl ?_
    exact ⟨_, _, rfl, Kd.V_nil _ _ _ _ _, Kd.V_nil _ _ _ _ _, HB2.out⟩
  | true =>
    rw [hb] at h
    obtain ⟨sh, hsh⟩ : ∃ sh, sh = (servF l0 l1 l2).2 := ⟨_, rfl⟩
    rw [← hsh] at h
    have HSH := Aside0.mk hsh
    clear hsh
    cases h
    go_enter Tryd.func14, Tryd.ntmps14
    go_wp2_with (fail)
    refine (asked_ok A0 A1 A2 c0 c1 c2 l0 l1 l2 true _ (Kd.C_below H0.out HW1.out) hc0 (Kd.C_below H1.out HW1.out) hc1 (Kd.C_below H2.out HW1.out) hc2 hf hb rfl (blk_below HFA.out HW1.out)).mono ?_
    rintro e w2 ⟨g, mb, n, sv, rfl, hbk⟩
    have HBK := Aside0.mk (hbk.lower HW1.out)
    have hX := blk_below (heap_alloc_new w (.cells #[.slice A0 l0.length c0, .slice A1 l1.length c1, .slice A2 l2.length c2] 26)) hbk.below
    have HX := Aside0.mk hX
    have q0 := (blk_cell hX 0).trans (show _ = some (Value.slice A0 l0.length c0) from rfl)
    clear hbk hX
    have FF := Aside0.mk (okB_facts hb)
    have hn5 : l0.length ≤ 5 := FF.out.2.1
    have hmk := print_make (P := Tryd.prog) 22 3 .i64 8 Tryd.underlying22 (by kernel_rfl) (by omega) l0.length (by omega)
    rw [made_nums] at hmk
    go_upto_region 4 with (fail)
    go_cut [2, 3] (fun v2 v3 wc => ∃ p q : Nat, v2 = .slice (some ⟨p, 0, none⟩) l0.length l0.length ∧ v3 = .slice (some ⟨q, 0, none⟩) l0.length l0.length ∧ p ≠ q ∧ w2.heap.size ≤ p ∧ w2.heap.size ≤ q ∧
      Aside0 (wc.heap[p]? = some (.cells (nums .i64 (List.replicate l0.length 0)).toArray 3 (0, 0))) ∧ Aside0 (wc.heap[q]? = some (.cells (nums .i64 (List.replicate l0.length 0)).toArray 3 (0, 0))) ∧ Aside0 (Below w2.heap.size w2 wc))
    case first =>
      go_region_held3 (fun W => W.cell? ⟨w.heap.size, 0, none⟩ = some (.slice A0 l0.length c0)) (go_keep) (fail)
      all_goals
        go_wp2
        go_meet
        case rel =>
          first
          | exact ⟨w2.heap.size, w2.heap.size + 1, rfl, rfl, by omega, by omega, by omega, ⟨blk_drew (blk_alloc (heap_alloc_new w2 _) _)⟩, ⟨blk_drew (heap_alloc_two w2 _ _)⟩, ⟨below_drew (below_alloc (below_alloc (Below.refl _ _) _) _)⟩⟩
          | exact ⟨w2.heap.size + 1, w2.heap.size, rfl, rfl, by omega, by omega, by omega, ⟨blk_drew (heap_alloc_two w2 _ _)⟩, ⟨blk_drew (blk_alloc (heap_alloc_new w2 _) _)⟩, ⟨below_drew (below_alloc (below_alloc (Below.refl _ _) _) _)⟩⟩
    case rest =>
      obtain ⟨p, q, rfl, rfl, hpq, hp, hq, HP, HQ, HC⟩ := hcut
      clear hmk q0
      obtain ⟨As, cs, hsv, hcs, hV⟩ := R_cut HBK.out.rows
      have hls : (servF l0 l1 l2).2.length = l1.length := (servF_len l1 l2 hn5).2
      rw [hls] at hsv hcs hV
      subst hsv
      have HV := Aside0.mk hV
      clear hV
      have HOK := Aside0.mk (servF_ok hb).2
      rw [← HSH.out] at HV HOK hls
      have HG2 := Aside0.mk (show w2.heap[g]? = some (.cells (bookCells (.slice A0 l0.length c0) (.slice A1 l1.length c1) (.slice A2 l2.length c2) (servF l0 l1 l2).1 mb (.slice As l1.length cs)) 86 (0, 0)) from HBK.out.cells)
      have HL2 := Aside0.mk HBK.out.below
      clear HBK
      have hS9 := pw_cell_below HC.out ((blk_cell HG2.out 9).trans (show _ = some (Value.slice As l1.length cs) from rfl))
      go_wp2_with (fail)
      go_loopw [29] (fun i wr => ∃ k : Nat, k ≤ l1.length ∧ i = .int .i64 k ∧ Aside0 (wr.heap[p]? = some (.cells (nums .i64 (missRow l1 sh S49.f2 l0.length k)).toArray 3 (0, 0))) ∧ Aside0 (wr.heap[q]? = some (.cells (nums .i64 (missRow l1 sh S49.f3 l0.length k)).toArray 3 (0, 0))) ∧ Aside0 (Below w2.heap.size w2 wr)) (fun i _ => l1.length - (intOf i).toNat)
      case atStart => exact ⟨0, by omega, rfl, HP, HQ, HC⟩
      case round =>
        obtain ⟨k, hk, rfl, HPk, HQk, HCk⟩ := hrel
        by_cases hkl : k < l1.length
        · obtain ⟨ad1, e1, p0, p1, p2, p3, p4⟩ := at_T47 (Kd.C_below H1.out HL2.out) k (by omega) (by omega)
          obtain ⟨ad2, e2, s0, s1, s2, s3⟩ := at_T49 (Kd.V_reads' HV.out).2.2 k (by omega) (by omega)
          cases e1; cases e2
          simp only [Int.toNat_natCast] at p0 p1 p2 p3 p4 s0 s1 s2 s3
          have hline := okB_line hb hkl
          obtain ⟨-, ⟨g0, g1⟩, -⟩ := hline
          have hok : OkShare (rd_T49 sh k) := rdmem49 HOK.out (by omega)
          have HOK2 := Aside0.mk hok
          clear hok
          have PX := Aside0.mk ((blk_cell HX.out 1).trans (show _ = some (Value.slice (some ad1) l1.length c1) from rfl))
          have P1 := Aside0.mk p1
          clear p0 p1 p2 p3 p4
          have q0 := pw_cell_below HCk.out s0
          have q1 := pw_cell_below HCk.out s1
          have q2 := pw_cell_below HCk.out s2
          have q3 := pw_cell_below HCk.out s3
          clear s0 s1 s2 s3
          have z2 := rd_bds (missRow_bd l1 sh S49.f2 l0.length (fun i hi => (rdmem49 HOK.out hi).2.2.1) k (by omega)) (by omega) (rd_T47 l1 k).f1
          have z3 := rd_bds (missRow_bd l1 sh S49.f3 l0.length (fun i hi => (rdmem49 HOK.out hi).2.2.2) k (by omega)) (by omega) (rd_T47 l1 k).f1
          have D2 := Aside0.mk (show missRow l1 sh S49.f2 l0.length (k + 1) = (missRow l1 sh S49.f2 l0.length k).set (rd_T47 l1 k).f1.toNat (rd (missRow l1 sh S49.f2 l0.length k) (rd_T47 l1 k).f1 + (rd_T49 sh k).f2) from rfl)
          have D3 := Aside0.mk (show missRow l1 sh S49.f3 l0.length (k + 1) = (missRow l1 sh S49.f3 l0.length k).set (rd_T47 l1 k).f1.toNat (rd (missRow l1 sh S49.f3 l0.length k) (rd_T47 l1 k).f1 + (rd_T49 sh k).f3) from rfl)
          have L2 := Aside0.mk (missRow_len l1 sh S49.f2 l0.length k)
          have L3 := Aside0.mk (missRow_len l1 sh S49.f3 l0.length k)
          obtain ⟨⟨-, -⟩, ⟨-, -⟩, ⟨o2, o2'⟩, ⟨o3, o3'⟩⟩ := HOK2.out
          generalize missRow l1 sh S49.f2 l0.length k = R2 at HPk z2 D2 L2
          generalize missRow l1 sh S49.f3 l0.length k = R3 at HQk z3 D3 L3
          have hl10 : l1.length ≤ 10 := FF.out.2.2.2.1
          go_wp2_with (fail)
          have HS7 := Aside0.mk (heap_alloc_new wr (Obj.cells #[.int .i64 (rd_T49 sh k).f0, .int .i64 (rd_T49 sh k).f1, .int .i64 (rd_T49 sh k).f2, .int .i64 (rd_T49 sh k).f3] 49))
          have HP7 := Aside0.mk (blk_alloc HPk.out (Obj.cells #[.int .i64 (rd_T49 sh k).f0, .int .i64 (rd_T49 sh k).f1, .int .i64 (rd_T49 sh k).f2, .int .i64 (rd_T49 sh k).f3] 49))
          have HQ7 := Aside0.mk (blk_alloc HQk.out (Obj.cells #[.int .i64 (rd_T49 sh k).f0, .int .i64 (rd_T49 sh k).f1, .int .i64 (rd_T49 sh k).f2, .int .i64 (rd_T49 sh k).f3] 49))
          have HC7 := Aside0.mk (below_alloc HCk.out (Obj.cells #[.int .i64 (rd_T49 sh k).f0, .int .i64 (rd_T49 sh k).f1, .int .i64 (rd_T49 sh k).f2, .int .i64 (rd_T49 sh k).f3] 49))
          have sz7 : wr.heap.size < (wr.alloc (Obj.cells #[.int .i64 (rd_T49 sh k).f0, .int .i64 (rd_T49 sh k).f1, .int .i64 (rd_T49 sh k).f2, .int .i64 (rd_T49 sh k).f3] 49)).heap.size := blk_lt HS7.out
          have np : p < wr.heap.size := blk_lt HPk.out
          have nq : q < wr.heap.size := blk_lt HQk.out
          generalize wr.alloc (Obj.cells #[.int .i64 (rd_T49 sh k).f0, .int .i64 (rd_T49 sh k).f1, .int .i64 (rd_T49 sh k).f2, .int .i64 (rd_T49 sh k).f3] 49) = W7 at HS7 HP7 HQ7 HC7 sz7 ⊢
          clear q0 q1 q2 q3 HPk HQk HCk
          have x7 := pw_cell_below HC7.out PX.out
          have y7 := pw_cell_below HC7.out P1.out
          have S2 := (blk_cell HS7.out 2).trans (show _ = some (Value.int .i64 (rd_T49 sh k).f2) from rfl)
          have C2 := nums_cell HP7.out g0 (by rw [L2.out]; omega)
          have F2 := blk_frozen HP7.out (rd_T47 l1 k).f1.toNat
          go_region
          have HP8 := Aside0.mk (blk_drew (blk_put HP7.out (rd_T47 l1 k).f1.toNat (Value.int .i64 (rd R2 (rd_T47 l1 k).f1 + (rd_T49 sh k).f2)) (nums_set _ _ _)))
          have HQ8 := Aside0.mk (blk_drew (blk_far (p := ⟨p, (rd_T47 l1 k).f1.toNat, none⟩) HQ7.out (Ne.symm hpq) (Value.int .i64 (rd R2 (rd_T47 l1 k).f1 + (rd_T49 sh k).f2))))
          have HS8 := Aside0.mk (blk_drew (blk_far (p := ⟨p, (rd_T47 l1 k).f1.toNat, none⟩) HS7.out (Nat.ne_of_gt np) (Value.int .i64 (rd R2 (rd_T47 l1 k).f1 + (rd_T49 sh k).f2))))
          have HC8 := Aside0.mk (below_drew (HC7.out.setCell (p := ⟨p, (rd_T47 l1 k).f1.toNat, none⟩) hp (Value.int .i64 (rd R2 (rd_T47 l1 k).f1 + (rd_T49 sh k).f2))))
          generalize (W7.setCell ⟨p, (rd_T47 l1 k).f1.toNat, none⟩ (Value.int .i64 (rd R2 (rd_T47 l1 k).f1 + (rd_T49 sh k).f2))).drew = W8 at HP8 HQ8 HS8 HC8 ⊢
          clear x7 y7 S2 C2 F2 HP7 HQ7 HS7 HC7 sz7
          have x8 := pw_cell_below HC8.out PX.out
          have y8 := pw_cell_below HC8.out P1.out
          have S3 := (blk_cell HS8.out 3).trans (show _ = some (Value.int .i64 (rd_T49 sh k).f3) from rfl)
          have C3 := nums_cell HQ8.out g0 (by rw [L3.out]; omega)
          have F3 := blk_frozen HQ8.out (rd_T47 l1 k).f1.toNat
          go_wp2_with (fail)
          go_region
          have HQ9 := Aside0.mk (blk_drew (blk_put HQ8.out (rd_T47 l1 k).f1.toNat (Value.int .i64 (rd R3 (rd_T47 l1 k).f1 + (rd_T49 sh k).f3)) (nums_set _ _ _)))
          have HP9 := Aside0.mk (blk_drew (blk_far (p := ⟨q, (rd_T47 l1 k).f1.toNat, none⟩) HP8.out hpq (Value.int .i64 (rd R3 (rd_T47 l1 k).f1 + (rd_T49 sh k).f3))))
          have HC9 := Aside0.mk (below_drew (HC8.out.setCell (p := ⟨q, (rd_T47 l1 k).f1.toNat, none⟩) hq (Value.int .i64 (rd R3 (rd_T47 l1 k).f1 + (rd_T49 sh k).f3))))
          rw [← D2.out] at HP9
          rw [← D3.out] at HQ9
          generalize (W8.setCell ⟨q, (rd_T47 l1 k).f1.toNat, none⟩ (Value.int .i64 (rd R3 (rd_T47 l1 k).f1 + (rd_T49 sh k).f3))).drew = W9 at HP9 HQ9 HC9 ⊢
          clear x8 y8 S3 C3 F3 HP8 HQ8 HS8 HC8
          go_wp2
          go_roundw
          case rel => exact ⟨k + 1, by omega, by go_num, HP9, HQ9, HC9⟩
          case measure => simp [intOf]; omega
        · obtain rfl : k = l1.length := by omega
          go_wp2
          go_region
          go_wp2
          refine bodyPost_ret (results_tmp3 rfl _ _ _) rfl ?_
          refine ⟨_, _, rfl, nums_V HPk.out (missRow_len _ _ _ _ _) ?_ (by omega), nums_V HQk.out (missRow_len _ _ _ _ _) ?_ (by omega), ?_⟩
          · exact Nat.le_trans (below_size HL2.out) hp
          · exact Nat.le_trans (below_size HL2.out) hq
          · exact below_drew (below_step HL2.out HCk.out)
end Go.Proofs.YtegpepnmnlockaaDoor.PL
namespace Go.Proofs.YtegpepnmnlockaaDoor.PL
open Go.RowKit Go.Proofs.YtegpepnmnlockaaDoorW.PrintWords Go.Proofs.YtegpepnmnlockaaDoorW.PrintLast Go.Proofs.YtegpepnmnlockaaDoorW.PrintMore
set_option linter.unusedVariables false
set_option linter.unusedSimpArgs false
/-- Is a line of an order among the first n? -/
def ordIn (l1 : List S47) (o : Int) (n : Nat) : Bool := (List.range n).any fun i => (rd_T47 l1 (i : Nat)).f0 == o
/-- Is something missing of an order, among the first n lines? -/
def ordBad (l1 : List S47) (sh : List S49) (o : Int) (n : Nat) : Bool := (List.range n).any fun i => (rd_T47 l1 (i : Nat)).f0 == o && decide (0 < (rd_T49 sh (i : Nat)).f2 + (rd_T49 sh (i : Nat)).f3)
theorem ordIn_succ (l1 : List S47) (o : Int) (n : Nat) : ordIn l1 o (n + 1) = (ordIn l1 o n || (rd_T47 l1 n).f0 == o) := by simp [ordIn, List.range_succ]
theorem ordBad_succ (l1 : List S47) (sh : List S49) (o : Int) (n : Nat) : ordBad l1 sh o (n + 1) = (ordBad l1 sh o n || ((rd_T47 l1 n).f0 == o && decide (0 < (rd_T49 sh n).f2 + (rd_T49 sh n).f3))) := by simp [ordBad, List.range_succ]
theorem ordBad_mono {l1 : List S47} {sh : List S49} {o : Int} {n m : Nat} (h : ordBad l1 sh o n = true) (hm : n ≤ m) : ordBad l1 sh o m = true := by
  unfold ordBad at *
  rw [List.any_eq_true] at *
  obtain ⟨x, hx, hp⟩ := h
  exact ⟨x, List.mem_range.2 (by have := List.mem_range.1 hx; omega), hp⟩
/-- The orders below a number of which nothing is missing. -/
def wholeF (l1 : List S47) (sh : List S49) : Nat → List Int
  | 0 => []
  | o + 1 => wholeF l1 sh o ++ (if (ordIn l1 o l1.length && !ordBad l1 sh o l1.length) = true then [(o : Int)] else [])
theorem wholeF_len (l1 : List S47) (sh : List S49) : ∀ o, (wholeF l1 sh o).length ≤ o
  | 0 => Nat.le_refl _
  | o + 1 => by
    have := wholeF_len l1 sh o
    rw [wholeF, List.length_append]
    split <;> simp <;> omega
def lack_Whole.f (l0 : List Int) (l1 : List S47) (l2 : List S57) : Option (List Int × Int) :=
  if Few l0 l1 l2 then (if okB l0 l1 l2 = true then some (wholeF l1 (servF l0 l1 l2).2 10, 0) else some ([], 100)) else none
set_option maxHeartbeats 8000000 in
set_option maxRecDepth 100000 in
theorem lack_Whole.calls (A0 : Option Addr) (c0 : Nat) (l0 : List Int) (A1 : Option Addr) (c1 : Nat) (l1 : List S47) (A2 : Option Addr) (c2 : Nat) (l2 : List S57) (r1 : List Int) (r2 : Int) (w : World)
    (h0 : Kd.C (Kd.int .i64) w A0 l0.length l0) (hc0 : l0.length ≤ c0) (h1 : Kd.C k47 w A1 l1.length l1) (hc1 : l1.length ≤ c1) (h2 : Kd.C k57 w A2 l2.length l2) (hc2 : l2.length ≤ c2) (hfa : Fates w)
    (h : lack_Whole.f l0 l1 l2 = some (r1, r2)) :
    Calls Tryd.prog 17 #[.agg #[.slice A0 l0.length c0, .slice A1 l1.length c1, .slice A2 l2.length c2]] w fun e w' => ∃ v1_ : Value, e = .returned (.tuple #[v1_, .int .i64 r2]) ∧ Kd.V (Kd.int .i64) 3 w' w.heap.size (fun k_ => w.heap.size ≤ k_) v1_ r1 ∧ Below w.heap.size w w' := by
  unfold lack_Whole.f at h
  by_cases hf : Few l0 l1 l2
  case neg => rw [if_neg hf] at h; cases h
  rw [if_pos hf] at h
  have H0 := Aside0.mk h0
  have H1 := Aside0.mk h1
  have H2 := Aside0.mk h2
  have HFA := Aside0.mk hfa
  clear h0 h1 h2 hfa
  have hu26 := Tryd.underlying26
  have hu86 := Tryd.underlying86
  have W1 := below_alloc (Below.refl w.heap.size w) (.cells #[.slice A0 l0.length c0, .slice A1 l1.length c1, .slice A2 l2.length c2] 26)
  have HW1 := Aside0.mk W1
  clear W1
  cases hb : okB l0 l1 l2 with
  | false =>
    rw [hb] at h
    cases h
    go_enter Tryd.func17, Tryd.ntmps17
    go_wp2_with (fail)
    go_step3
    go_wp2_with (fail)
    refine (asked_bad A0 A1 A2 c0 c1 c2 l0 l1 l2 true _ (Kd.C_below H0.out HW1.out) hc0 (Kd.C_below H1.out HW1.out) hc1 (Kd.C_below H2.out HW1.out) hc2 hf hb).mono ?_
    rintro e w2 ⟨rfl, hb2⟩
    have HB2 := Aside0.mk (below_step HW1.out hb2)
    clear hb2
    go_wp2
    try rw [Exit.noGoto_ret]
    refine bodyPost_ret (results_tmp2 rfl _ _ _) rfl ?_
    exact ⟨_, rfl, Kd.V_nil _ _ _ _ _, HB2.out⟩
  | true =>
    rw [hb] at h
    obtain ⟨sh, hsh⟩ : ∃ sh, sh = (servF l0 l1 l2).2 := ⟨_, rfl⟩
    rw [← hsh] at h
    have HSH := Aside0.mk hsh
    clear hsh
    cases h
    go_enter Tryd.func17, Tryd.ntmps17
    go_wp2_with (fail)
    go_step3
    go_wp2_with (fail)
    refine (asked_ok A0 A1 A2 c0 c1 c2 l0 l1 l2 true _ (Kd.C_below H0.out HW1.out) hc0 (Kd.C_below H1.out HW1.out) hc1 (Kd.C_below H2.out HW1.out) hc2 hf hb rfl (blk_below HFA.out HW1.out)).mono ?_
    rintro e w2 ⟨g, mb, n, sv, rfl, hbk⟩
    have HBK := Aside0.mk (hbk.lower HW1.out)
    have hX := blk_below (heap_alloc_new w (.cells #[.slice A0 l0.length c0, .slice A1 l1.length c1, .slice A2 l2.length c2] 26)) hbk.below
    have HX := Aside0.mk hX
    clear hbk hX
    have FF := Aside0.mk (okB_facts hb)
    have hn5 : l0.length ≤ 5 := FF.out.2.1
    have hl10 : l1.length ≤ 10 := FF.out.2.2.2.1
    obtain ⟨As, cs, hsv, hcs, hV⟩ := R_cut HBK.out.rows
    have hls : (servF l0 l1 l2).2.length = l1.length := (servF_len l1 l2 hn5).2
    rw [hls] at hsv hcs hV
    subst hsv
    have HV := Aside0.mk hV
    clear hV
    have HOK := Aside0.mk (servF_ok hb).2
    rw [← HSH.out] at HV HOK hls
    have HG2 := Aside0.mk (show w2.heap[g]? = some (.cells (bookCells (.slice A0 l0.length c0) (.slice A1 l1.length c1) (.slice A2 l2.length c2) (servF l0 l1 l2).1 mb (.slice As l1.length cs)) 86 (0, 0)) from HBK.out.cells)
    have HL2 := Aside0.mk HBK.out.below
    clear HBK
    have PG := Aside0.mk ((blk_cell HG2.out 9).trans (show _ = some (Value.slice As l1.length cs) from rfl))
    have PX := Aside0.mk ((blk_cell HX.out 1).trans (show _ = some (Value.slice A1 l1.length c1) from rfl))
    go_wp2_with (fail)
    go_step3
    go_wp2_with (fail)
    go_loopw [6, 19] (fun out i wr => ∃ o : Nat, o ≤ 10 ∧ i = .int .i64 o ∧ Aside0 (Kd.R (Kd.int .i64) 3 wr w2.heap.size (fun _ => True) out (wholeF l1 sh o)) ∧ Aside0 (Below w2.heap.size w2 wr)) (fun _ i _ => 10 - (intOf i).toNat)
    case atStart => exact ⟨0, by omega, rfl, ⟨Kd.R_nil _ _ _ _ _⟩, ⟨Below.refl _ _⟩⟩
    case round =>
      obtain ⟨o, ho, rfl, HO, HC⟩ := hrel
      by_cases hoo : o < 10
      · have hS9 := pw_cell_below HC.out PG.out
        go_wp2_with (fail)
        obtain ⟨wo, hwo⟩ : ∃ wo : World, wo = wr := ⟨_, rfl⟩
        rw [← hwo] at HO HC hS9
        go_loopw [8, 27] (fun sm i wi => ∃ j : Nat, j ≤ l1.length ∧ i = .int .i64 j ∧ sm = .bool (ordIn l1 o j) ∧ Aside0 (ordBad l1 sh o j = false) ∧ Aside0 (Below wo.heap.size wo wi)) (fun _ i _ => l1.length - (intOf i).toNat)
        case atStart => exact ⟨0, by omega, rfl, rfl, ⟨rfl⟩, ⟨by rw [hwo]; exact Below.refl _ _⟩⟩
        case round =>
          obtain ⟨j, hj, rfl, rfl, HBd, HD⟩ := hrel
          have HE := Aside0.mk (below_step HC.out HD.out)
          by_cases hjl : j < l1.length
          · obtain ⟨ad1, e1, p0, p1, p2, p3, p4⟩ := at_T47 (Kd.C_below H1.out HL2.out) j (by omega) (by omega)
            obtain ⟨ad2, e2, s0, s1, s2, s3⟩ := at_T49 (Kd.V_reads' HV.out).2.2 j (by omega) (by omega)
            cases e1; cases e2
            simp only [Int.toNat_natCast] at p0 p1 p2 p3 p4 s0 s1 s2 s3
            have x1 := all_alloc (pw_cell_below HE.out PX.out)
            have y0 := all_alloc (pw_cell_below HE.out p0)
            have t0 := pw_cell_below HE.out s0
            have t1 := pw_cell_below HE.out s1
            have t2 := pw_cell_below HE.out s2
            have t3 := pw_cell_below HE.out s3
            clear p0 p1 p2 p3 p4 s0 s1 s2 s3
            have hok : OkShare (rd_T49 sh j) := rdmem49 HOK.out (by omega)
            obtain ⟨⟨-, -⟩, ⟨-, -⟩, ⟨o2, o2'⟩, ⟨o3, o3'⟩⟩ := hok
            have DI := Aside0.mk (ordIn_succ l1 o j)
            have DB := Aside0.mk (ordBad_succ l1 sh o j)
            have HD' := Aside0.mk (below_alloc HD.out (Obj.cells #[.int .i64 (rd_T49 sh j).f0, .int .i64 (rd_T49 sh j).f1, .int .i64 (rd_T49 sh j).f2, .int .i64 (rd_T49 sh j).f3] 49))
            by_cases c : (rd_T47 l1 j).f0 = o
            · have cA : ((rd_T47 l1 j).f0 != (o : Int)) = false := bne_eq_false_iff_eq.2 c
              have cA2 : ((rd_T47 l1 j).f0 == (o : Int)) = true := beq_iff_eq.2 c
              rw [cA2] at DI DB
              have C := Aside0.mk c
              clear c cA2
              by_cases d : 0 < (rd_T49 sh j).f2 + (rd_T49 sh j).f3
              · have dA : decide (0 < (rd_T49 sh j).f2 + (rd_T49 sh j).f3) = true := decide_eq_true d
                rw [dA, Bool.and_true, Bool.or_true] at DB
                have HW := Aside0.mk (show wholeF l1 sh (o + 1) = wholeF l1 sh o by
                  rw [wholeF, ordBad_mono DB.out (show j + 1 ≤ l1.length by omega)]
                  simp)
                have HO2 := Aside0.mk (Kd.R_below HO.out HD'.out)
                rw [← HW.out] at HO2
                go_wp2
                go_roundw
                case rel => exact ⟨o + 1, by omega, by go_num, HO2, ⟨below_step HC.out HD'.out⟩⟩
                case measure => simp [intOf]; omega
              · have dA : decide (0 < (rd_T49 sh j).f2 + (rd_T49 sh j).f3) = false := decide_eq_false d
                rw [dA, Bool.and_false, Bool.or_false, HBd.out] at DB
                rw [Bool.or_true] at DI
                go_wp2
                go_roundw
                case rel => exact ⟨j + 1, by omega, by go_num, by rw [DI.out], DB, HD'⟩
                case measure => simp [intOf]; omega
            · have cA : ((rd_T47 l1 j).f0 != (o : Int)) = true := bne_iff_ne.2 c
              have cA2 : ((rd_T47 l1 j).f0 == (o : Int)) = false := beq_eq_false_iff_ne.2 c
              rw [cA2, Bool.false_and, Bool.or_false, HBd.out] at DB
              rw [cA2, Bool.or_false] at DI
              clear c cA2
              go_wp2
              go_roundw
              case rel => exact ⟨j + 1, by omega, by go_num, by rw [DI.out], DB, HD'⟩
              case measure => simp [intOf]; omega
          · obtain rfl : j = l1.length := by omega
            cases ci : ordIn l1 o l1.length with
            | false =>
              have HW := Aside0.mk (show wholeF l1 sh (o + 1) = wholeF l1 sh o by rw [wholeF, ci]; simp)
              have HO2 := Aside0.mk (Kd.R_below HO.out HD.out)
              rw [← HW.out] at HO2
              go_wp2
              go_roundw
              case rel => exact ⟨o + 1, by omega, by go_num, HO2, ⟨below_step HC.out HD.out⟩⟩
              case measure => simp [intOf]; omega
            | true =>
              have HW := Aside0.mk (show wholeF l1 sh (o + 1) = wholeF l1 sh o ++ [(o : Int)] by rw [wholeF, ci, HBd.out]; simp)
              have HO2 := Aside0.mk (Kd.R_below HO.out HD.out)
              have hle := wholeF_len l1 sh o
              go_wp2_with (at_builtin; refine Kd.R_append (Kd.int .i64) (w0 := w2) w2.heap.size rfl (.tmp 48) (.tmp 50) 22 3 (.int .i64 0) 8 rfl Tryd.underlying22 info3 rfl (by decide) (by omega) _ (wholeF l1 sh o) (o : Int) [.int .i64 (o : Int)] (fun _ => True) (fun _ => False) rfl rfl ?aP (fun _ hk => hk.elim) ?aF ?aO ?aB ?aS ?aL ?_; (case aP => exact rfl); (case aB => exact HE.out); (case aF => exact (fun _ _ => trivial)); (case aO => exact HO2.out); (case aS => exact below_size HE.out); (case aL => omega); intro v1 w1 ho1 hb1 hg1 hat1; rw [← HW.out] at ho1; have HO3 := Aside0.mk ho1; have HB3 := Aside0.mk hb1; clear ho1 hb1 hg1 hat1)
              go_roundw
              case rel => exact ⟨o + 1, by omega, by go_num, HO3, HB3⟩
              case measure => simp [intOf]; omega
      · obtain rfl : o = 10 := by omega
        obtain ⟨Av, cv, rfl, hcv, hVo⟩ := R_cut (Kd.R_lower HO.out (base' := w.heap.size) (below_size HL2.out))
        have HVO := Aside0.mk hVo
        have i1 : ((wholeF l1 sh 10).length : Int) ≤ (cv : Int) := by omega
        clear hVo hcv
        go_wp2
        rw [Exit.noGoto_ret]
        refine bodyPost_ret (results_tmp2 rfl _ _ _) rfl ?_
        exact ⟨_, rfl, HVO.out, below_step HL2.out HC.out⟩
end Go.Proofs.YtegpepnmnlockaaDoor.PL
namespace Go.Proofs.YtegpepnmnlockaaDoor.PL
open Go.RowKit Go.Proofs.YtegpepnmnlockaaDoorW.PrintWords Go.Proofs.YtegpepnmnlockaaDoorW.PrintLast Go.Proofs.YtegpepnmnlockaaDoorW.PrintMore
set_option linter.unusedVariables false
set_option linter.unusedSimpArgs false
/-- -1, 0, 1: how two numbers lie. -/
def cmpF (x y : Int) : Int := if x < y then -1 else if y < x then 1 else 0
theorem isNaN_calls (x : Int) (w : World) : Calls Tryd.prog 97 #[.int .i64 x] w fun e w' => e = .returned (.bool false) ∧ w' = w := by
  go_enter Tryd.func97, Tryd.ntmps97
  go_wp2
  refine bodyPost_ret (results_tmp rfl _ _ _) rfl ?_
  exact ⟨rfl, rfl⟩
theorem compare_calls (x y : Int) (w : World) : Calls Tryd.prog 86 #[.int .i64 x, .int .i64 y] w fun e w' => e = .returned (.int .i64 (cmpF x y)) ∧ w' = w := by
  by_cases c : x < y
  · have h1 : cmpF x y = -1 := if_pos c
    rw [h1]
    have cA : decide (x < y) = true := decide_eq_true c
    clear c h1
    go_enter Tryd.func86, Tryd.ntmps86
    go_wp2_with (go_at_call 97; refine (isNaN_calls _ _).mono ?_; rintro e w' ⟨rfl, rfl⟩)
    refine bodyPost_ret (results_tmp rfl _ _ _) rfl ?_
    exact ⟨rfl, rfl⟩
  · have cA : decide (x < y) = false := decide_eq_false c
    by_cases d : y < x
    · have h1 : cmpF x y = 1 := by unfold cmpF; rw [if_neg c, if_pos d]
      rw [h1]
      have dA : decide (y < x) = true := decide_eq_true d
      clear c h1 d
      go_enter Tryd.func86, Tryd.ntmps86
      go_wp2_with (go_at_call 97; refine (isNaN_calls _ _).mono ?_; rintro e w' ⟨rfl, rfl⟩)
      refine bodyPost_ret (results_tmp rfl _ _ _) rfl ?_
      exact ⟨rfl, rfl⟩
    · have h1 : cmpF x y = 0 := by unfold cmpF; rw [if_neg c, if_neg d]
      rw [h1]
      have dA : decide (y < x) = false := decide_eq_false d
      clear c h1 d
      go_enter Tryd.func86, Tryd.ntmps86
      go_wp2_with (go_at_call 97; refine (isNaN_calls _ _).mono ?_; rintro e w' ⟨rfl, rfl⟩)
      refine bodyPost_ret (results_tmp rfl _ _ _) rfl ?_
      exact ⟨rfl, rfl⟩
/-- The first of two numbers that is not 0, or 0. -/
def orF (x y : Int) : Int := if x = 0 then y else x
theorem or_calls (b : Nat) (x y : Int) (w : World) (h : w.heap[b]? = some (.cells #[.int .i64 x, .int .i64 y] 3 (0, 0))) : Calls Tryd.prog 85 #[.slice (some ⟨b, 0, none⟩) 2 2] w fun e w' => e = .returned (.int .i64 (orF x y)) ∧ w' = w := by
  have c0 := (blk_cell h 0).trans (show _ = some (Value.int .i64 x) from rfl)
  have c1 := (blk_cell h 1).trans (show _ = some (Value.int .i64 y) from rfl)
  clear h
  by_cases c : x = 0
  · have h1 : orF x y = y := if_pos c
    rw [h1]
    subst c
    clear h1
    by_cases d : y = 0
    · subst d
      go_enter Tryd.func85, Tryd.ntmps85
      go_wp2
      refine wp_loop_rounds 3 ?_
      rw [rounds_succ]
      go_wp2
      rw [rounds_succ]
      go_wp2
      rw [rounds_succ]
      go_wp2
      refine bodyPost_ret (results_tmp rfl _ _ _) rfl ?_
      exact ⟨rfl, rfl⟩
    · have dA : (y != 0) = true := bne_iff_ne.2 d
      clear d
      go_enter Tryd.func85, Tryd.ntmps85
      go_wp2
      refine wp_loop_rounds 2 ?_
      rw [rounds_succ]
      go_wp2
      rw [rounds_succ]
      go_wp2
      refine bodyPost_ret (results_tmp rfl _ _ _) rfl ?_
      exact ⟨rfl, rfl⟩
  · have h1 : orF x y = x := if_neg c
    rw [h1]
    have dA : (x != 0) = true := bne_iff_ne.2 c
    clear c h1
    go_enter Tryd.func85, Tryd.ntmps85
    go_wp2
    refine wp_loop_rounds 1 ?_
    rw [rounds_succ]
    go_wp2
    refine bodyPost_ret (results_tmp rfl _ _ _) rfl ?_
    exact ⟨rfl, rfl⟩
end Go.Proofs.YtegpepnmnlockaaDoor.PL
namespace Go.Proofs.YtegpepnmnlockaaDoor.PL
open Go.RowKit Go.Proofs.YtegpepnmnlockaaDoorW.PrintWords Go.Proofs.YtegpepnmnlockaaDoorW.PrintLast Go.Proofs.YtegpepnmnlockaaDoorW.PrintMore
set_option linter.unusedVariables false
set_option linter.unusedSimpArgs false
/-- How two lines lie: by how long they wait, then by their numbers. -/
def cfL (l1 : List S47) (x y : Nat) : Int := orF (cmpF (rd_T47 l1 x).f3 (rd_T47 l1 y).f3) (cmpF x y)
set_option maxHeartbeats 8000000 in
set_option maxRecDepth 100000 in
theorem patience_calls (Bx g : Nat) (A1 : Option Addr) (c1 : Nat) (l1 : List S47) (x y : Nat) (W : World) (hx : x < l1.length) (hy : y < l1.length)
    (hb : W.cell? ⟨Bx, 0, none⟩ = some (.pointer (some ⟨g, 0, none⟩))) (hg : W.cell? ⟨g, 1, none⟩ = some (.slice A1 l1.length c1)) (hl : Kd.C k47 W A1 l1.length l1) (hs : l1.length ≤ 1000) :
    Calls Tryd.prog 84 #[.int .i64 x, .int .i64 y, .pointer (some ⟨Bx, 0, none⟩)] W fun e w' => e = .returned (.int .i64 (cfL l1 x y)) ∧ ∃ q o, w' = (W.drewN q).alloc o := by
  obtain ⟨ad1, e1, p0, p1, p2, p3, p4⟩ := at_T47 hl x (by omega) (by omega)
  obtain ⟨ad2, e2, q0, q1, q2, q3, q4⟩ := at_T47 hl y (by omega) (by omega)
  cases e1; cases e2
  simp only [Int.toNat_natCast] at p3 q3
  clear p0 p1 p2 p4 q0 q1 q2 q4 hl
  unfold cfL
  have hxi : (x : Int) < (l1.length : Int) := by omega
  have hyi : (y : Int) < (l1.length : Int) := by omega
  go_enter Tryd.func84, Tryd.ntmps84
  go_wp2
  go_region_held3 (fun w => w.cell? ⟨Bx, 0, none⟩ = some (.pointer (some ⟨g, 0, none⟩)) ∧ w.cell? ⟨g, 1, none⟩ = some (.slice (some ad1) l1.length c1) ∧ w.cell? ⟨(ad1.add (x * 5)).block, (ad1.add (x * 5)).off + 3, none⟩ = some (.int .i64 (rd_T47 l1 x).f3) ∧ w.cell? ⟨(ad1.add (y * 5)).block, (ad1.add (y * 5)).off + 3, none⟩ = some (.int .i64 (rd_T47 l1 y).f3)) (go_keep)
    (first
      | (go_at_call 86; (with_reducible refine (compare_calls _ _ _).mono ?_); rintro e w2 ⟨rfl, rfl⟩)
      | (go_at_call 85; (with_reducible refine (or_calls _ _ _ _ (blk_drew (heap_alloc_new W _))).mono ?_); rintro e w2 ⟨rfl, rfl⟩))
  all_goals
    go_wp2
    refine bodyPost_ret (results_tmp rfl _ _ _) rfl ?_
    exact ⟨rfl, 1, _, rfl⟩
end Go.Proofs.YtegpepnmnlockaaDoor.PL
namespace Go.Proofs.YtegpepnmnlockaaDoor.PL
open Go.RowKit Go.Proofs.YtegpepnmnlockaaDoorW.PrintWords Go.Proofs.YtegpepnmnlockaaDoorW.PrintLast Go.Proofs.YtegpepnmnlockaaDoorW.PrintMore
set_option linter.unusedVariables false
set_option linter.unusedSimpArgs false
set_option maxHeartbeats 8000000 in
set_option maxRecDepth 100000 in
theorem patience_of (g : Nat) (w : World) : Calls Tryd.prog 80 #[.pointer (some ⟨g, 0, none⟩)] w fun e w' => e = .returned (.agg #[.func (.func 84) #[] #[.pointer (some ⟨w.heap.size, 0, none⟩)]]) ∧ w'.heap[w.heap.size]? = some (.cells #[.pointer (some ⟨g, 0, none⟩)] 79 (0, 0)) ∧ Below w.heap.size w w' := by
  have hmf : ∀ (fn : Fn) (first cap : Array Value) (w : World), (Instr.makeFunc fn first cap).run Tryd.prog w = .ok (.func fn first cap) w := fun _ _ _ _ => rfl
  have hu119 := Tryd.underlying119
  go_enter Tryd.func80, Tryd.ntmps80
  go_wp2
  refine bodyPost_ret (results_cell_row rfl _ _ (w.heap.size + 1) 119 #[.func (.func 84) #[] #[.pointer (some ⟨w.heap.size, 0, none⟩)]] (0, 0) _ rfl (heap_alloc_two w _ _) Tryd.underlying119 rfl (by kernel_rfl)) rfl ?_
  exact ⟨rfl, blk_alloc (heap_alloc_new w _) _, below_alloc (below_alloc (Below.refl _ _) _) _⟩
end Go.Proofs.YtegpepnmnlockaaDoor.PL
namespace Go.Proofs.YtegpepnmnlockaaDoor.PL
open Go.RowKit Go.Proofs.YtegpepnmnlockaaDoorW.PrintWords Go.Proofs.YtegpepnmnlockaaDoorW.PrintLast Go.Proofs.YtegpepnmnlockaaDoorW.PrintMore
attribute [local go_sem] Oper.semAt_some
set_option linter.unusedVariables false
set_option linter.unusedSimpArgs false
/-- The lines of a good that have listed pieces, of the first n. -/
def candF (l1 : List S47) (sh : List S49) (good : Int) (n : Nat) : List Nat := (List.range n).filter fun i => (rd_T47 l1 (i : Nat)).f1 == good && decide (0 < (rd_T49 sh (i : Nat)).f2)
theorem candF_succ (l1 : List S47) (sh : List S49) (good : Int) (n : Nat) : candF l1 sh good (n + 1) = candF l1 sh good n ++ (if ((rd_T47 l1 n).f1 == good && decide (0 < (rd_T49 sh n).f2)) = true then [n] else []) := by
  unfold candF
  rw [List.range_succ, List.filter_append]
  congr 1
  simp only [List.filter_cons, List.filter_nil]
theorem candF_mem {l1 : List S47} {sh : List S49} {good : Int} {n i : Nat} : i ∈ candF l1 sh good n ↔ i < n ∧ (rd_T47 l1 i).f1 = good ∧ 0 < (rd_T49 sh i).f2 := by
  unfold candF
  rw [List.mem_filter, List.mem_range]
  simp
theorem candF_len (l1 : List S47) (sh : List S49) (good : Int) (n : Nat) : (candF l1 sh good n).length ≤ n := by
  have := List.length_filter_le (fun i => (rd_T47 l1 (i : Nat)).f1 == good && decide (0 < (rd_T49 sh (i : Nat)).f2)) (List.range n)
  rw [List.length_range] at this
  exact this
/-- The lines of a good that have listed pieces, in the order in which they get them. -/
def waitL (l1 : List S47) (sh : List S49) (good : Int) : List Nat := (candF l1 sh good l1.length).mergeSort fun x y => !decide (cfL l1 y x < 0)
/-- What a round keeps: all cells but one block's. -/
def KpB (B : Nat) (W W' : World) : Prop := W.heap.size ≤ W'.heap.size ∧ ∀ k cs t fr, k ≠ B → W.heap[k]? = some (.cells cs t fr) → W'.heap[k]? = some (.cells cs t fr)
theorem KpB.trans {B : Nat} {A C D : World} (h : KpB B A C) (k : KpB B C D) : KpB B A D := ⟨Nat.le_trans h.1 k.1, fun i cs t fr hi hc => k.2 i cs t fr hi (h.2 i cs t fr hi hc)⟩
theorem KpB.putObj {B : Nat} {n : Nat} (W : World) (l : Nat) (o o' : Obj) (_ : n ≤ l) (h : W.heap[l]? = some o) (hc : o.isCells = false) (_ : o.isWalk = false) : KpB B W (W.putObj l o') := by
  refine ⟨(grownBy_putObj' W l o').size, fun k cs t fr hk hcs => ?_⟩
  have hne : k ≠ l := by rintro rfl; rw [h] at hcs; cases hcs; cases hc
  exact ((grownBy_putObj' W l o').block k (Array.getElem?_eq_some_iff.1 hcs).1 (by simpa using hne)).trans hcs
end Go.Proofs.YtegpepnmnlockaaDoor.PL
namespace Go.Proofs.YtegpepnmnlockaaDoor.PL
open Go.RowKit Go.Proofs.YtegpepnmnlockaaDoorW.PrintWords Go.Proofs.YtegpepnmnlockaaDoorW.PrintLast Go.Proofs.YtegpepnmnlockaaDoorW.PrintMore
open Go.Shelf Go.Lib Go.Sort
set_option linter.unusedVariables false
set_option linter.unusedSimpArgs false
theorem grownBy_sorted {α : Type} [Inhabited α] (enc : α → Value) {w : World} {g n off : Nat} {os : Array Obj} (d : Array α) : w.grownBy (sortWorld enc w g off n d os) (some g) := by
  unfold sortWorld
  refine ⟨rfl, rfl, rfl, ?_, fun k hk hne => ?_⟩
  · show w.heap.size ≤ ((putRow enc (Sort.ahead w n) g off d).heap ++ os).size
    rw [Array.size_append, size_putRow]
    show w.heap.size ≤ w.heap.size + _
    omega
  · show ((putRow enc (Sort.ahead w n) g off d).heap ++ os)[k]? = _
    rw [Array.getElem?_append_left (by rw [size_putRow]; exact hk)]
    show (w.heap.modify g _)[k]? = _
    rw [Array.getElem?_modify, if_neg (fun e => hne (by rw [e]))]
/-- A line's number. -/
def encF (n : Nat) (x : Fin n) : Value := .int .i64 (x.val : Int)
theorem patience_lays (Bx g blk off size : Nat) (A1 : Option Addr) (c1 : Nat) (l1 : List S47) (w : World) [Inhabited (Fin l1.length)] (hs : l1.length ≤ 1000)
    (hb : w.heap[Bx]? = some (.cells #[.pointer (some ⟨g, 0, none⟩)] 79 (0, 0))) (hb0 : Bx ≠ blk)
    (hg : w.cell? ⟨g, 1, none⟩ = some (.slice A1 l1.length c1)) (hg0 : g ≠ blk) (w0 : World) (hl : Kd.C k47 w0 A1 l1.length l1) (hw0 : Below w0.heap.size w0 w) (hk : w0.heap.size ≤ blk) :
    CmpLays1 Tryd.prog 84 #[.pointer (some ⟨Bx, 0, none⟩)] (encF l1.length) (fun x y => cfL l1 x.val y.val) blk off size w := by
  intro m os dk hdk x y
  have hgr : w.grownBy (sortWorld (encF l1.length) w blk off m dk os) (some blk) := grownBy_sorted _ dk
  have hlw : Kd.C k47 (sortWorld (encF l1.length) w blk off m dk os) A1 l1.length l1 := Kd.C_below hl (pw_below_grown hw0 (some blk) hw0.size hgr (fun q hq => by cases hq; exact hk))
  generalize sortWorld (encF l1.length) w blk off m dk os = W at hgr hlw ⊢
  refine (patience_calls Bx g A1 c1 l1 x.val y.val W x.isLt y.isLt ((blk_cell (blk_grown hb hgr (by simpa using hb0)) 0).trans rfl) (World.grownBy.cell hgr hg (by simpa using hg0)) hlw hs).mono ?_
  rintro e w' ⟨rfl, q, o, rfl⟩
  exact ⟨rfl, q, #[o], alloc_eq_grow _ _⟩
end Go.Proofs.YtegpepnmnlockaaDoor.PL
namespace Go.Proofs
open Go.Shelf
def Tryd.sortL_ren : Go.Shelf.Ren := ⟨fun | 6 => 79 | 15 => 83 | 14 => 82 | 28 => 95 | 29 => 96 | 20 => 87 | 21 => 88 | 22 => 89 | 23 => 90 | 24 => 91 | 25 => 92 | 26 => 93 | 27 => 94 | 46 => 98 | 47 => 99 | 48 => 100 | 49 => 101 | 50 => 102 | 57 => 103 | n => n, fun | 22 => 22 | 24 => 3 | 25 => 66 | 3 => 3 | 39 => 124 | 0 => 0 | 53 => 134 | 55 => 136 | 4 => 4 | 46 => 127 | 45 => 126 | 50 => 131 | 5 => 5 | 9 => 9 | 66 => 137 | 70 => 141 | 76 => 143 | 77 => 144 | n => n, fun | n => n⟩
theorem Tryd.sortL : Go.Proofs.SlLaysF.n6 Tryd.prog Tryd.sortL_ren := {
  mixed := by kernel_rfl
  f6 := ⟨Tryd.f79.name, by decide, Tryd.func79.trans (congrArg some (by kernel_rfl))⟩
  f14 := ⟨Tryd.f82.name, by decide, Tryd.func82.trans (congrArg some (by kernel_rfl))⟩
  f15 := Tryd.func83.trans (congrArg some (by kernel_rfl))
  f20 := ⟨Tryd.f87.name, by decide, Tryd.func87.trans (congrArg some (by kernel_rfl))⟩
  f21 := ⟨Tryd.f88.name, by decide, Tryd.func88.trans (congrArg some (by kernel_rfl))⟩
  f22 := ⟨Tryd.f89.name, by decide, Tryd.func89.trans (congrArg some (by kernel_rfl))⟩
  f23 := ⟨Tryd.f90.name, by decide, Tryd.func90.trans (congrArg some (by kernel_rfl))⟩
  f24 := ⟨Tryd.f91.name, by decide, Tryd.func91.trans (congrArg some (by kernel_rfl))⟩
  f25 := ⟨Tryd.f92.name, by decide, Tryd.func92.trans (congrArg some (by kernel_rfl))⟩
  f26 := ⟨Tryd.f93.name, by decide, Tryd.func93.trans (congrArg some (by kernel_rfl))⟩
  f27 := ⟨Tryd.f94.name, by decide, Tryd.func94.trans (congrArg some (by kernel_rfl))⟩
  f28 := Tryd.func95.trans (congrArg some (by kernel_rfl))
  f29 := Tryd.func96.trans (congrArg some (by kernel_rfl))
  f46 := ⟨Tryd.f98.name, by decide, Tryd.func98.trans (congrArg some (by kernel_rfl))⟩
  f47 := Tryd.func99.trans (congrArg some (by kernel_rfl))
  f48 := Tryd.func100.trans (congrArg some (by kernel_rfl))
  f49 := ⟨Tryd.f101.name, by decide, Tryd.func101.trans (congrArg some (by kernel_rfl))⟩
  f50 := ⟨Tryd.f102.name, by decide, Tryd.func102.trans (congrArg some (by kernel_rfl))⟩
  f57 := ⟨Tryd.f103.name, by decide, Tryd.func103.trans (congrArg some (by kernel_rfl))⟩
  t0 := Tryd.underlying0
  a0 := Tryd.isAgg0
  z0 := Tryd.sizeOf0
  v0 := Tryd.zeroValue0
  t3 := Tryd.underlying3
  a3 := Tryd.isAgg3
  z3 := Tryd.sizeOf3
  v3 := Tryd.zeroValue3
  t4 := Tryd.underlying4
  a4 := Tryd.isAgg4
  z4 := Tryd.sizeOf4
  v4 := Tryd.zeroValue4
  t5 := Tryd.underlying5
  a5 := Tryd.isAgg5
  z5 := Tryd.sizeOf5
  v5 := Tryd.zeroValue5
  t9 := Tryd.underlying9
  a9 := Tryd.isAgg9
  z9 := Tryd.sizeOf9
  v9 := Tryd.zeroValue9
  t22 := Tryd.underlying22
  a22 := Tryd.isAgg22
  z22 := Tryd.sizeOf22
  v22 := Tryd.zeroValue22
  a24 := Tryd.isAgg3
  z24 := Tryd.sizeOf3
  t25 := Tryd.underlying66
  a25 := Tryd.isAgg66
  z25 := Tryd.sizeOf66
  v25 := Tryd.zeroValue66
  t39 := Tryd.underlying124
  a39 := Tryd.isAgg124
  z39 := Tryd.sizeOf124
  v39 := Tryd.zeroValue124
  t45 := Tryd.underlying126
  a45 := Tryd.isAgg126
  z45 := Tryd.sizeOf126
  v45 := Tryd.zeroValue126
  t46 := Tryd.underlying127
  a46 := Tryd.isAgg127
  z46 := Tryd.sizeOf127
  v46 := Tryd.zeroValue127
  t50 := Tryd.underlying131
  a50 := Tryd.isAgg131
  z50 := Tryd.sizeOf131
  v50 := Tryd.zeroValue131
  t53 := Tryd.underlying134
  a53 := Tryd.isAgg134
  z53 := Tryd.sizeOf134
  v53 := Tryd.zeroValue134
  t55 := Tryd.underlying136
  a55 := Tryd.isAgg136
  z55 := Tryd.sizeOf136
  v55 := Tryd.zeroValue136
  t66 := Tryd.underlying137
  a66 := Tryd.isAgg137
  z66 := Tryd.sizeOf137
  v66 := Tryd.zeroValue137
  t70 := Tryd.underlying141
  a70 := Tryd.isAgg141
  z70 := Tryd.sizeOf141
  v70 := Tryd.zeroValue141
  t76 := Tryd.underlying143
  a76 := Tryd.isAgg143
  z76 := Tryd.sizeOf143
  v76 := Tryd.zeroValue143
  t77 := Tryd.underlying144
  a77 := Tryd.isAgg144
  z77 := Tryd.sizeOf144
  v77 := Tryd.zeroValue144 }
end Go.Proofs
namespace Go.Proofs.YtegpepnmnlockaaDoor.PL
open Go.RowKit Go.Proofs.YtegpepnmnlockaaDoorW.PrintWords Go.Proofs.YtegpepnmnlockaaDoorW.PrintLast Go.Proofs.YtegpepnmnlockaaDoorW.PrintMore
open Go.Shelf Go.Lib Go.Sort
set_option linter.unusedVariables false
set_option linter.unusedSimpArgs false
theorem cfL_lt (l1 : List S47) (x y : Nat) : cfL l1 x y < 0 ↔ (rd_T47 l1 x).f3 < (rd_T47 l1 y).f3 ∨ ((rd_T47 l1 x).f3 = (rd_T47 l1 y).f3 ∧ x < y) := by
  unfold cfL orF cmpF
  (repeat' split) <;> omega
theorem swoL (l1 : List S47) : SWO (ltOf fun x y : Fin l1.length => cfL l1 x.val y.val) where
  irrefl x := by unfold ltOf; rw [decide_eq_false_iff_not, cfL_lt]; omega
  trans x y z h1 h2 := by unfold ltOf at *; rw [decide_eq_true_iff, cfL_lt] at *; omega
  ntrans x y z h1 h2 := by unfold ltOf at *; rw [decide_eq_false_iff_not, cfL_lt] at *; omega
theorem totL (l1 : List S47) (x y : Fin l1.length) (h1 : ltOf (fun x y : Fin l1.length => cfL l1 x.val y.val) x y = false) (h2 : ltOf (fun x y : Fin l1.length => cfL l1 x.val y.val) y x = false) : x = y := by
  unfold ltOf at *
  rw [decide_eq_false_iff_not, cfL_lt] at *
  exact Fin.ext (by omega)
theorem sort_calls (Bx g blk cap : Nat) (A1 : Option Addr) (c1 : Nat) (l1 : List S47) (xs : List Nat) (hx : ∀ x ∈ xs, x < l1.length) (hne : xs ≠ []) (w : World) (hs : l1.length ≤ 1000)
    (hb : w.heap[Bx]? = some (.cells #[.pointer (some ⟨g, 0, none⟩)] 79 (0, 0))) (hb0 : Bx ≠ blk)
    (hg : w.cell? ⟨g, 1, none⟩ = some (.slice A1 l1.length c1)) (hg0 : g ≠ blk) (w0 : World) (hl : Kd.C k47 w0 A1 l1.length l1) (hw0 : Below w0.heap.size w0 w) (hk : w0.heap.size ≤ blk)
    (cur : Array Value) (hrow : w.heap[blk]? = some (.cells cur 3 (0, 0))) (hcur : cur.toList.take xs.length = nums .i64 (xs.map Int.ofNat)) (hlen : xs.length ≤ 1000) :
    Calls Tryd.prog 79 #[.slice (some ⟨blk, 0, none⟩) xs.length cap, .func (.func 84) #[] #[.pointer (some ⟨Bx, 0, none⟩)]] w fun e w' => e = .returned (.tuple #[]) ∧ w.grownBy w' (some blk) ∧
      ∀ j, j < xs.length → w'.cell? ⟨blk, j, none⟩ = some (.int .i64 (((xs.mergeSort fun x y => !decide (cfL l1 y x < 0)).getD j 0 : Nat) : Int)) := by
  obtain ⟨x0, hx0⟩ := List.exists_mem_of_ne_nil xs hne
  haveI : Inhabited (Fin l1.length) := ⟨⟨x0, hx x0 hx0⟩⟩
  obtain ⟨fl, hfl⟩ : ∃ fl : List (Fin l1.length), fl.map (·.val) = xs := ⟨xs.pmap (fun x h => ⟨x, h⟩) hx, by simp [List.map_pmap]⟩
  have hlf : fl.length = xs.length := by rw [← hfl, List.length_map]
  have hcell : ∀ j, (hj : j < fl.length) → w.cell? ⟨blk, j, none⟩ = some (encF l1.length fl[j]) := fun j hj => by
    rw [blk_cell hrow]
    have h1 : (cur.toList.take xs.length)[j]? = some (.int .i64 ((fl[j]).val : Int)) := by
      rw [hcur, ← hfl]
      simp [nums, hj]
    rw [List.getElem?_take_of_lt (by omega), Array.getElem?_toList] at h1
    exact h1
  have hH : Holds (encF l1.length) w blk 0 fl.toArray := fun j hj => by
    have hj' : j < fl.length := by simpa using hj
    refine ⟨?_, by rw [Nat.zero_add]; exact blk_frozen hrow j⟩
    rw [Nat.zero_add, hcell j hj', getElem!_pos fl.toArray j hj]
    rfl
  have eg : ∀ args w, (callFunc 84 args).run Tryd.prog w = .ok (.enter 84 args) w := enters_of Tryd.func84 (by kernel_rfl) rfl
  have hS := Any.slices_SortFunc_total Tryd.sortL (encF l1.length) (fun _ => rfl) (fun x y : Fin l1.length => cfL l1 x.val y.val) (swoL l1) 84 #[.pointer (some ⟨Bx, 0, none⟩)] blk 0 cap fl.toArray w eg
    (patience_lays Bx g blk 0 _ A1 c1 l1 w hs hb hb0 hg hg0 w0 hl hw0 hk) hH (blk_lt hrow) (by simp; omega) (totL l1)
  change Calls Tryd.prog 79 _ _ _ at hS
  rw [show fl.toArray.size = xs.length by simpa using hlf] at hS
  refine hS.mono ?_
  rintro e w' ⟨rfl, n, os, rfl⟩
  refine ⟨rfl, grownBy_sorted _ _, fun j hj => ?_⟩
  have hms : (fl.mergeSort fun x y => !(ltOf fun x y : Fin l1.length => cfL l1 x.val y.val) y x).map (·.val) = xs.mergeSort fun x y => !decide (cfL l1 y x < 0) := by
    rw [← hfl]
    exact List.map_mergeSort (fun a _ b _ => rfl)
  have hjl : j < (fl.mergeSort fun x y => !(ltOf fun x y : Fin l1.length => cfL l1 x.val y.val) y x).length := by rw [List.length_mergeSort, hlf]; exact hj
  have hc := cell?_putRow (encF l1.length) (Sort.ahead w n) blk 0 fl.toArray (fl.mergeSort fun x y => !(ltOf fun x y : Fin l1.length => cfL l1 x.val y.val) y x).toArray hH (by simp) j (by simpa using hjl)
  rw [Nat.zero_add] at hc
  have hgr : (sortWorld (encF l1.length) w blk 0 n (fl.mergeSort fun x y => !(ltOf fun x y : Fin l1.length => cfL l1 x.val y.val) y x).toArray os).cell? ⟨blk, j, none⟩ = (putRow (encF l1.length) (Sort.ahead w n) blk 0 (fl.mergeSort fun x y => !(ltOf fun x y : Fin l1.length => cfL l1 x.val y.val) y x).toArray).cell? ⟨blk, j, none⟩ := by
    refine World.cell?_of_block ?_
    show ((putRow (encF l1.length) (Sort.ahead w n) blk 0 _).heap ++ os)[blk]? = _
    rw [Array.getElem?_append_left (by rw [size_putRow]; exact blk_lt hrow)]
  rw [hgr, hc, getElem!_pos _ j (by simpa using hjl), ← hms]
  simp only [encF, List.getElem_toArray]
  rw [List.getD_eq_getElem?_getD, List.getElem?_map, List.getElem?_eq_getElem hjl]
  rfl
end Go.Proofs.YtegpepnmnlockaaDoor.PL
namespace Go.Proofs.YtegpepnmnlockaaDoor.PL
open Go.RowKit Go.Proofs.YtegpepnmnlockaaDoorW.PrintWords Go.Proofs.YtegpepnmnlockaaDoorW.PrintLast Go.Proofs.YtegpepnmnlockaaDoorW.PrintMore
attribute [local go_sem] Oper.semAt_some
set_option linter.unusedVariables false
set_option linter.unusedSimpArgs false
theorem take_getD {l : List Nat} {k : Nat} (h : k < l.length) : l.take (k + 1) = l.take k ++ [l.getD k 0] := by
  rw [List.take_add_one, List.getD_eq_getElem?_getD, List.getElem?_eq_getElem h]
  rfl
theorem R_row {e base : Nat} {ok : Nat → Prop} {w : World} {v : Value} {xs : List Int} (h : Kd.R (Kd.int .i64) e w base ok v xs) (hne : xs ≠ []) : ∃ blk cap cur, v = .slice (some ⟨blk, 0, none⟩) xs.length cap ∧ base ≤ blk ∧ w.heap[blk]? = some (.cells cur e (0, 0)) ∧ xs.length ≤ cap ∧ cap ≤ maxLen ∧ cur.size = cap ∧ cur.toList.take xs.length = nums .i64 xs := by
  obtain ⟨_, inner, ⟨hl, ho⟩, hr⟩ := h
  have h1 : (Kd.int .i64).sz = 1 := rfl
  have hin : inner = nums .i64 xs := by
    apply List.ext_getElem
    · rw [hl, h1]; simp [nums]
    · intro i hi hi2
      have hi3 : i < xs.length := by simpa [nums] using hi2
      have := hr.2 i _ (List.getElem?_eq_getElem hi3)
      rw [h1, Nat.mul_one] at this
      have h3 : (inner.drop i).take 1 = [.int .i64 xs[i]] := this
      rw [List.drop_eq_getElem_cons hi] at h3
      have h4 : some inner[i] = some (Value.int .i64 xs[i]) := congrArg List.head? h3
      rw [Option.some.inj h4]
      simp [nums]
  rcases ho with ⟨_, h0⟩ | ⟨g, cap, cur, hv, hb, hg, hc1, hc2, hc3, hc4⟩
  · exact absurd (List.eq_nil_of_length_eq_zero h0) hne
  · rw [h1, Nat.mul_one] at hc3 hc4
    exact ⟨g, cap, cur, hv, hb, hg, hc1, hc2, hc3, hc4.trans hin⟩
set_option maxHeartbeats 8000000 in
set_option maxRecDepth 100000 in
theorem iter_in (n B Bb Bg g mb : Nat) (Sl D : Value) (A1 As : Option Addr) (c1 cs : Nat) (l1 : List S47) (left : List Int) (sh : List S49) (good : Int) (w : World)
    (hbb : w.heap[Bb]? = some (.cells #[.pointer (some ⟨g, 0, none⟩)] 79 (0, 0))) (hbg : w.heap[Bg]? = some (.cells #[.int .i64 good] 3 (0, 0)))
    (hg : w.heap[g]? = some (.cells (bookCells Sl (.slice A1 l1.length c1) D left mb (.slice As l1.length cs)) 86 (0, 0)))
    (hB : B < w.heap.size) (h1 : Kd.C k47 w A1 l1.length l1) (hc1 : l1.length ≤ c1) (h2 : Kd.C k49 w As l1.length sh) (hc2 : l1.length ≤ cs) (hsh : sh.length = l1.length) (hl : l1.length ≤ 10)
    (hcand : candF l1 sh good l1.length ≠ []) :
    SeqStopsK Fence.wide n Tryd.prog 78 #[.pointer (some ⟨Bb, 0, none⟩), .pointer (some ⟨Bg, 0, none⟩)] (fun x : Fin l1.length => #[Value.int .i64 (x.val : Int)]) (KpB B) (fun ys => ys.map (·.val) = waitL l1 sh good) (fun pre => pre.map (·.val) <+: waitL l1 sh good) l1.length w := by
  intro l J Jx W hW hJ hJx hY h0
  have HBB := Aside0.mk (blk_below hbb hW)
  have HBG := Aside0.mk (blk_below hbg hW)
  have HG := Aside0.mk (blk_below hg hW)
  have H1 := Aside0.mk (Kd.C_below h1 hW)
  have H2 := Aside0.mk (Kd.C_below h2 hW)
  have HWW := Aside0.mk hW
  have HJ := Aside0.mk hJ
  have HJX := Aside0.mk hJx
  have HY := Aside0.mk hY
  have H0 := Aside0.mk h0
  have HCD := Aside0.mk hcand
  clear hbb hbg hg h1 h2 hW hJ hJx hY h0 hcand
  have PB := Aside0.mk ((blk_cell HBB.out 0).trans (show _ = some (Value.pointer (some ⟨g, 0, none⟩)) from rfl))
  have PD := Aside0.mk ((blk_cell HBG.out 0).trans (show _ = some (Value.int .i64 good) from rfl))
  have PX := Aside0.mk ((blk_cell HG.out 1).trans (show _ = some (Value.slice A1 l1.length c1) from rfl))
  have PS := Aside0.mk ((blk_cell HG.out 9).trans (show _ = some (Value.slice As l1.length cs) from rfl))
  refine callsIn_of_wp Tryd.func78 rfl trivial ?_ rfl
  refine wpIn_wide.2 ?_
  simp only [Tryd.ntmps78, List.size_toArray, List.length_cons, List.length_nil, Nat.reduceAdd, Nat.reduceSub, Array.replicate_succ, Array.replicate_zero, List.push_toArray, List.append_toArray, List.nil_append, List.cons_append]
  have y0 := PB.out
  have y9 := PS.out
  go_wp2_with (fail)
  clear y0 y9
  go_loopw [4, 14] (fun v i wr => ∃ j : Nat, j ≤ l1.length ∧ i = .int .i64 j ∧ Aside0 (Kd.R (Kd.int .i64) 3 wr W.heap.size (fun _ => True) v ((candF l1 sh good j).map Int.ofNat)) ∧ Aside0 (Below W.heap.size W wr)) (fun _ i _ => l1.length - (intOf i).toNat)
  case atStart => exact ⟨0, by omega, rfl, ⟨Kd.R_nil _ _ _ _ _⟩, ⟨Below.refl _ _⟩⟩
  case round =>
    obtain ⟨j, hj, rfl, HO, HC⟩ := hrel
    by_cases hjl : j < l1.length
    · obtain ⟨ad1, e1, p0, p1, p2, p3, p4⟩ := at_T47 H1.out j (by omega) (by omega)
      obtain ⟨ad2, e2, s0, s1, s2, s3⟩ := at_T49 H2.out j (by omega) (by omega)
      cases e1; cases e2
      simp only [Int.toNat_natCast] at p0 p1 p2 p3 p4 s0 s1 s2 s3
      have x0 := all_alloc (pw_cell_below HC.out PB.out)
      have x1 := all_alloc (pw_cell_below HC.out PX.out)
      have x2 := all_alloc (pw_cell_below HC.out PD.out)
      have y1 := all_alloc (pw_cell_below HC.out p1)
      have t0 := pw_cell_below HC.out s0
      have t1 := pw_cell_below HC.out s1
      have t2 := pw_cell_below HC.out s2
      have t3 := pw_cell_below HC.out s3
      clear p0 p1 p2 p3 p4 s0 s1 s2 s3
      have DC := Aside0.mk (candF_succ l1 sh good j)
      have hle := candF_len l1 sh good j
      have HLE := Aside0.mk hle
      clear hle
      by_cases c : (rd_T47 l1 j).f1 = good
      · have cA : ((rd_T47 l1 j).f1 == good) = true := beq_iff_eq.2 c
        clear c
        by_cases d : 0 < (rd_T49 sh j).f2
        · have dA : decide (0 < (rd_T49 sh j).f2) = true := decide_eq_true d
          rw [cA, dA, Bool.and_true, if_pos rfl] at DC
          clear d
          go_wp2
          go_quiet (fail)
          have HO8 := Aside0.mk (show Kd.R (Kd.int .i64) 3 ((wr.alloc (Obj.cells #[.int .i64 (rd_T49 sh j).f0, .int .i64 (rd_T49 sh j).f1, .int .i64 (rd_T49 sh j).f2, .int .i64 (rd_T49 sh j).f3] 49)).drewN nq) W.heap.size (fun _ => True) _ _ from Kd.R_drewN (Kd.R_alloc HO.out _) _)
          have HC8 := Aside0.mk (pw_below_drewN (below_alloc HC.out (Obj.cells #[.int .i64 (rd_T49 sh j).f0, .int .i64 (rd_T49 sh j).f1, .int .i64 (rd_T49 sh j).f2, .int .i64 (rd_T49 sh j).f3] 49)) nq)
          generalize (wr.alloc (Obj.cells #[.int .i64 (rd_T49 sh j).f0, .int .i64 (rd_T49 sh j).f1, .int .i64 (rd_T49 sh j).f2, .int .i64 (rd_T49 sh j).f3] 49)).drewN nq = W8 at HO8 HC8 ⊢
          clear x0 x1 x2 y1
          go_wp2_with (at_builtin; go_loud (refine Kd.R_append (Kd.int .i64) (w0 := W) W.heap.size rfl (.tmp 35) (.tmp 37) 22 3 (.int .i64 0) 8 rfl Tryd.underlying22 info3 rfl (by decide) (by omega) _ ((candF l1 sh good j).map Int.ofNat) (Int.ofNat j) [.int .i64 (j : Int)] (fun _ => True) (fun _ => False) rfl rfl ?aP (fun _ hk => hk.elim) ?aF ?aO ?aB ?aS ?aL ?_); (case aP => exact rfl); (case aB => exact HC8.out); (case aF => exact (fun _ _ => trivial)); (case aO => exact HO8.out); (case aS => exact below_size HC8.out); (case aL => rw [List.length_map]; have := HLE.out; omega); intro v1 w1 ho1 hb1 hg1 hat1; rw [show (candF l1 sh good j).map Int.ofNat ++ [Int.ofNat j] = (candF l1 sh good (j + 1)).map Int.ofNat from by rw [DC.out, List.map_append]; rfl] at ho1; have HO3 := Aside0.mk ho1; have HB3 := Aside0.mk hb1; clear ho1 hb1 hg1 hat1)
          go_roundw
          case rel => exact ⟨j + 1, by omega, by go_num, HO3, HB3⟩
          case measure => simp [intOf]; omega
        · have dA : decide (0 < (rd_T49 sh j).f2) = false := decide_eq_false d
          rw [cA, dA, Bool.and_false, if_neg (by decide), List.append_nil] at DC
          clear d
          go_wp2
          go_quiet (fail)
          go_wp2
          go_roundw
          case rel => exact ⟨j + 1, by omega, by go_num, ⟨by rw [DC.out]; (with_reducible repeat (first | apply Kd.R_alloc | apply Kd.R_drewN | apply Kd.R_drew)); exact HO.out⟩, ⟨by repeat (first | (with_reducible exact HC.out) | apply below_alloc | apply pw_below_drewN | apply below_drew)⟩⟩
          case measure => simp [intOf]; omega
      · have cA : ((rd_T47 l1 j).f1 == good) = false := beq_eq_false_iff_ne.2 c
        rw [cA, Bool.false_and, if_neg (by decide), List.append_nil] at DC
        clear c
        go_wp2
        go_quiet (fail)
        go_wp2
        go_roundw
        case rel => exact ⟨j + 1, by omega, by go_num, ⟨by rw [DC.out]; (with_reducible repeat (first | apply Kd.R_alloc | apply Kd.R_drewN | apply Kd.R_drew)); exact HO.out⟩, ⟨by repeat (first | (with_reducible exact HC.out) | apply below_alloc | apply pw_below_drewN | apply below_drew)⟩⟩
        case measure => simp [intOf]; omega
    · obtain rfl : j = l1.length := by omega
      have x0 := pw_cell_below HC.out PB.out
      have hLE := candF_len l1 sh good l1.length
      obtain ⟨blk, cap, cur, hv, hbk, hrow, hcp1, hcp2, hcsz, hcur⟩ := R_row HO.out (by rw [ne_eq, List.map_eq_nil_iff]; exact HCD.out)
      subst hv
      rw [List.length_map] at hcp1 hcur
      have HROW := Aside0.mk hrow
      have HCUR := Aside0.mk hcur
      have HBK := Aside0.mk hbk
      clear hrow hcur hcsz hcp2 hbk hcp1
      go_wp2_with (fail)
      refine (patience_of g wr).mono ?_
      rintro e w2 ⟨rfl, hbx, hb2⟩
      have HBX := Aside0.mk hbx
      have HB2 := Aside0.mk hb2
      clear hbx hb2
      have F119 : ∀ W, (Instr.field 119 (.agg #[.func (.func 84) #[] #[.pointer (some ⟨wr.heap.size, 0, none⟩)]]) 0).run Tryd.prog W = .ok (.func (.func 84) #[] #[.pointer (some ⟨wr.heap.size, 0, none⟩)]) W := fun _ => by kernel_rfl
      rw [List.length_map]
      go_wp2_with (fail)
      have hgW : g < W.heap.size := blk_lt HG.out
      have hbW : blk < wr.heap.size := blk_lt HROW.out
      have hBW : B < W.heap.size := Nat.lt_of_lt_of_le hB (below_size HWW.out)
      have HC2 := Aside0.mk (below_step HC.out HB2.out)
      refine (sort_calls wr.heap.size g blk cap A1 c1 l1 (candF l1 sh good l1.length) (fun x hx => (candF_mem.1 hx).1) HCD.out w2 (by omega) HBX.out (Nat.ne_of_gt hbW) (pw_cell_below HC2.out PX.out) (by have := HBK.out; omega) W H1.out HC2.out HBK.out cur (blk_below HROW.out HB2.out) HCUR.out (by omega)).mono ?_
      rintro e w3 ⟨rfl, hgr3, hcell3⟩
      have HC3 := Aside0.mk (pw_below_grown HC2.out (some blk) (below_size HC2.out) hgr3 (fun q hq => by cases hq; exact HBK.out))
      have hpos : 0 < (candF l1 sh good l1.length).length := List.length_pos_iff.2 HCD.out
      obtain ⟨cs3, t3, fr3, hb3, hc3⟩ := Go.Sort.cells_of_cell? (hcell3 0 hpos)
      have HCS : Aside0 (∀ j, j < (candF l1 sh good l1.length).length → cs3[j]? = some (.int .i64 (((waitL l1 sh good).getD j 0 : Nat) : Int))) := ⟨fun j hj => (cell_of_row w3 blk j cs3 t3 fr3 hb3).symm.trans (hcell3 j hj)⟩
      have HB3 := Aside0.mk hb3
      have HJ3 := Aside0.mk (HJ.out [] W w3 none H0.out (grown_of_below HC3.out none) (fun r hr => by cases hr))
      clear hgr3 hcell3 hb3 hc3 x0 F119
      go_wp2_with (fail)
      have hwl : (waitL l1 sh good).length = (candF l1 sh good l1.length).length := List.length_mergeSort _
      have HLE := Aside0.mk hLE
      clear hLE
      refine (wpIn_wide (n := n)).1 ?_
      gi_loopw [47] (fun i wr' => ∃ (k : Nat) (pre : List (Fin l1.length)), k ≤ (candF l1 sh good l1.length).length ∧ i = .int .i64 k ∧ Aside0 (pre.map (·.val) = (waitL l1 sh good).take k) ∧ Aside0 (J pre wr') ∧ Aside0 (wr'.heap[blk]? = some (.cells cs3 t3 fr3))) (fun i _ => (candF l1 sh good l1.length).length - (intOf i).toNat)
      case atStart => exact ⟨0, [], by omega, rfl, ⟨rfl⟩, HJ3, HB3⟩
      case round =>
        obtain ⟨k, pre, hk, rfl, HP, HJk, HBk⟩ := hrel
        have hpl : pre.length = k := by
          have := congrArg List.length HP.out
          rw [List.length_map, List.length_take, hwl] at this
          omega
        by_cases hkl : k < (candF l1 sh good l1.length).length
        · have hxm : (waitL l1 sh good).getD k 0 ∈ candF l1 sh good l1.length := by
            rw [List.getD_eq_getElem?_getD, List.getElem?_eq_getElem (by omega)]
            exact (List.mergeSort_perm _ _).mem_iff.1 (List.getElem_mem _)
          have hxl := (candF_mem.1 hxm).1
          have HKL := Aside0.mk (Nat.succ_le_of_lt hkl)
          have hk10 : k ≤ 10 := by have := HLE.out; omega
          have hck := (cell_of_row wr blk k cs3 t3 fr3 HBk.out).trans (HCS.out k hkl)
          have HN : Aside0 ((pre ++ [(⟨(waitL l1 sh good).getD k 0, hxl⟩ : Fin l1.length)]).map (·.val) = (waitL l1 sh good).take (k + 1)) := ⟨by
            rw [List.map_append, HP.out, take_getD (by omega)]
            rfl⟩
          obtain ⟨fn, tmps, assign, body, hy, hR⟩ := HY.out pre ⟨(waitL l1 sh good).getD k 0, hxl⟩ wr HJk.out (by have := HLE.out; omega)
          dsimp only at hy
          generalize (waitL l1 sh good).getD k 0 = xk at hck hy hxl hR HN
          gi_wp2
          refine ⟨fun h => (by simp [Fence.wide] at h), hR.mono ?_⟩
          rintro e w4 (⟨rfl, hJ4, hk4⟩ | ⟨rfl, hJx4⟩)
          · have HB4 := Aside0.mk (hk4.2 blk cs3 t3 fr3 (by have := HBK.out; omega) HBk.out)
            have HJ4 := Aside0.mk hJ4
            clear hJ4 hk4
            gi_wp2
            go_roundw
            case rel => exact ⟨k + 1, _, HKL.out, by go_num, HN, HJ4, HB4⟩
            case measure => simp [intOf]; have := HKL.out; omega
          · have HJ4 := Aside0.mk hJx4
            clear hJx4
            gi_wp2
            refine bodyPost_ret (results_none rfl _ _ _) rfl ?_
            exact ⟨⟨_, rfl⟩, .inr ⟨_, by rw [HN.out]; exact List.take_prefix _ _, HJ4.out⟩⟩
        · obtain rfl : k = (candF l1 sh good l1.length).length := by omega
          gi_wp2
          first | go_end0 | refine bodyPost_ret (results_none rfl _ _ _) rfl ?_
          exact ⟨⟨_, rfl⟩, .inl ⟨pre, by rw [HP.out, ← hwl, List.take_length], HJk.out⟩⟩
end Go.Proofs.YtegpepnmnlockaaDoor.PL
namespace Go.Proofs.YtegpepnmnlockaaDoor.PL
open Go.RowKit Go.Proofs.YtegpepnmnlockaaDoorW.PrintWords Go.Proofs.YtegpepnmnlockaaDoorW.PrintLast Go.Proofs.YtegpepnmnlockaaDoorW.PrintMore
attribute [local go_sem] Oper.semAt_some
set_option linter.unusedVariables false
set_option linter.unusedSimpArgs false
set_option maxHeartbeats 8000000 in
set_option maxRecDepth 100000 in
theorem waiting_of (g : Nat) (good : Int) (w : World) : Calls Tryd.prog 72 #[.pointer (some ⟨g, 0, none⟩), .int .i64 good] w fun e w' => e = .returned (.func (.func 78) #[] #[.pointer (some ⟨w.heap.size, 0, none⟩), .pointer (some ⟨w.heap.size + 1, 0, none⟩)]) ∧
    w'.heap[w.heap.size]? = some (.cells #[.pointer (some ⟨g, 0, none⟩)] 79 (0, 0)) ∧ w'.heap[w.heap.size + 1]? = some (.cells #[.int .i64 good] 3 (0, 0)) ∧ Below w.heap.size w w' ∧ w'.heap.size = w.heap.size + 2 := by
  have hmf : ∀ (fn : Fn) (first cap : Array Value) (w : World), (Instr.makeFunc fn first cap).run Tryd.prog w = .ok (.func fn first cap) w := fun _ _ _ _ => rfl
  go_enter Tryd.func72, Tryd.ntmps72
  go_wp2
  refine bodyPost_ret (results_tmp rfl _ _ _) rfl ?_
  exact ⟨rfl, blk_alloc (heap_alloc_new w _) _, heap_alloc_two w _ _, below_alloc (below_alloc (Below.refl _ _) _) _, by simp⟩
theorem kpB_set {B : Nat} (W : World) (i : Nat) (v : Value) : KpB B W (W.setCell ⟨B, i, none⟩ v).drew :=
  ⟨by show W.heap.size ≤ (W.setCell ⟨B, i, none⟩ v).heap.size; simp, fun k cs t fr hk h => (Below.heap_setCell W ⟨B, i, none⟩ v k hk).trans h⟩
theorem share_bd {sh : List S49} (h : ∀ s ∈ sh, OkShare s) (i : Nat) : 0 ≤ (rd_T49 sh (i : Nat)).f2 ∧ (rd_T49 sh (i : Nat)).f2 ≤ 20 := by
  by_cases hi : i < sh.length
  · exact (rdmem49 h hi).2.2.1
  · unfold rd_T49
    rw [Int.toNat_natCast, List.getD_eq_getElem?_getD, List.getElem?_eq_none (by omega)]
    decide
theorem heap_kept {W W' : World} {k : Nat} {row : Option Nat} {cs : Array Value} {t : TypeId} {fr : Nat × Nat} (h : W.heap[k]? = some (.cells cs t fr)) (hg : W.grownBy W' row) (hr : ∀ r, row = some r → ∃ o : Obj, W.heap[r]? = some o ∧ o.isCells = false) : W'.heap[k]? = some (.cells cs t fr) :=
  (hg.block k (Array.getElem?_eq_some_iff.1 h).1 (fun e => by
    obtain ⟨o, ho, hc⟩ := hr k e.symm
    rw [h] at ho
    cases ho
    cases hc)).trans h
/-- What is needed till a line is served: what is listed of the lines up to it. -/
def needTo (f : Nat → Int) (line : Nat) : List Nat → Int
  | [] => 0
  | x :: xs => f x + if x = line then 0 else needTo f line xs
def needF (l1 : List S47) (sh : List S49) (line : Nat) : Int := needTo (fun i => (rd_T49 sh (i : Nat)).f2) line (waitL l1 sh (rd_T47 l1 line).f1)
/-- What has come of a good by a day. -/
def cameBy (l2 : List S57) (l3 : List S59) (good day : Int) : Nat → Int
  | 0 => 0
  | i + 1 => cameBy l2 l3 good day i + if (rd_T57 l2 i).f0 = good ∧ (rd_T59 l3 i).f0 ≤ day then (rd_T59 l3 i).f1 else 0
theorem cameBy_bd (l2 : List S57) (l3 : List S59) (good day : Int) (h : ∀ c ∈ l3, 0 ≤ c.f1 ∧ c.f1 ≤ 50) : ∀ i : Nat, i ≤ l3.length → 0 ≤ cameBy l2 l3 good day i ∧ cameBy l2 l3 good day i ≤ 50 * (i : Int)
  | 0, _ => by simp [cameBy]
  | i + 1, hi => by
    have ih := cameBy_bd l2 l3 good day h i (by omega)
    have hc : 0 ≤ (rd_T59 l3 i).f1 ∧ (rd_T59 l3 i).f1 ≤ 50 := by
      unfold rd_T59
      rw [Int.toNat_natCast, List.getD_eq_getElem?_getD, List.getElem?_eq_getElem (by omega)]
      exact h _ (List.getElem_mem _)
    unfold cameBy
    split <;> omega
/-- The first day, from one on, on which so much has come. -/
def dayF (F : Int → Int) (need : Int) : Nat → Nat → Int
  | 0, _ => 100
  | k + 1, d => if need ≤ F d then d else dayF F need k (d + 1)
def thereF (l1 : List S47) (l2 : List S57) (sh : List S49) (line : Nat) (l3 : List S59) : Int := dayF (fun d => cameBy l2 l3 (rd_T47 l1 line).f1 d l3.length) (needF l1 sh line) 101 0
def sumTo (f : Nat → Int) : List Nat → Int
  | [] => 0
  | x :: xs => f x + sumTo f xs
theorem sumTo_append (f : Nat → Int) : ∀ (xs ys : List Nat), sumTo f (xs ++ ys) = sumTo f xs + sumTo f ys
  | [], ys => by simp [sumTo]
  | x :: xs, ys => by simp only [List.cons_append, sumTo]; rw [sumTo_append f xs ys]; omega
theorem needTo_prefix (f : Nat → Int) (line : Nat) : ∀ (pre rest : List Nat), line ∉ pre → needTo f line (pre ++ line :: rest) = sumTo f (pre ++ [line])
  | [], rest, _ => by simp [needTo, sumTo]
  | x :: pre, rest, h => by
    have hx : x ≠ line := fun e => h (by simp [e])
    simp only [List.cons_append, needTo, sumTo]
    rw [if_neg hx, needTo_prefix f line pre rest (fun hh => h (List.mem_cons_of_mem _ hh))]
theorem sumTo_bd (f : Nat → Int) (hf : ∀ i, 0 ≤ f i ∧ f i ≤ 20) : ∀ xs : List Nat, 0 ≤ sumTo f xs ∧ sumTo f xs ≤ 20 * (xs.length : Int)
  | [] => by simp [sumTo]
  | x :: xs => by
    have := sumTo_bd f hf xs
    have := hf x
    simp only [sumTo, List.length_cons]
    omega
set_option maxHeartbeats 8000000 in
set_option maxRecDepth 100000 in
theorem there_calls (g mb : Nat) (Sl : Value) (A1 A2 A3 As : Option Addr) (c1 c2 c3 cs : Nat) (l1 : List S47) (l2 : List S57) (l3 : List S59) (left : List Int) (sh : List S49) (line : Nat) (w : World)
    (hg : w.heap[g]? = some (.cells (bookCells Sl (.slice A1 l1.length c1) (.slice A2 l2.length c2) left mb (.slice As l1.length cs)) 86 (0, 0)))
    (h1 : Kd.C k47 w A1 l1.length l1) (hc1 : l1.length ≤ c1) (h2 : Kd.C k49 w As l1.length sh) (hc2 : l1.length ≤ cs) (hsh : sh.length = l1.length) (hl : l1.length ≤ 10) (hok : ∀ s ∈ sh, OkShare s)
    (h3 : Kd.C k57 w A2 l2.length l2) (hc3 : l2.length ≤ c2) (h4 : Kd.C k59 w A3 l3.length l3) (hc4 : l3.length ≤ c3) (h32 : l3.length ≤ l2.length) (hl2 : l2.length ≤ 6) (hca : ∀ c ∈ l3, 0 ≤ c.f1 ∧ c.f1 ≤ 50)
    (hline : line < l1.length) (hls : 0 < (rd_T49 sh line).f2) :
    Calls Tryd.prog 51 #[.pointer (some ⟨g, 0, none⟩), .int .i64 line, .slice A3 l3.length c3] w fun e w' => e = .returned (.int .i64 (thereF l1 l2 sh line l3)) ∧ Below w.heap.size w w' := by
  have HG := Aside0.mk hg
  have H1 := Aside0.mk h1
  have H2 := Aside0.mk h2
  have H3 := Aside0.mk h3
  have H4 := Aside0.mk h4
  have HOK := Aside0.mk hok
  have HCA := Aside0.mk hca
  have HLS := Aside0.mk hls
  clear hg h1 h2 h3 h4 hok hca hls
  have PX := Aside0.mk ((blk_cell HG.out 1).trans (show _ = some (Value.slice A1 l1.length c1) from rfl))
  have PS := Aside0.mk ((blk_cell HG.out 9).trans (show _ = some (Value.slice As l1.length cs) from rfl))
  have PD := Aside0.mk ((blk_cell HG.out 2).trans (show _ = some (Value.slice A2 l2.length c2) from rfl))
  refine (callsIn_wide (n := 10)).1 ?_
  refine callsIn_of_wp_marks Tryd.func51 rfl trivial ?_ rfl
  refine wpIn_wide.2 ?_
  simp only [Tryd.ntmps51, List.size_toArray, List.length_cons, List.length_nil, Nat.reduceAdd, Nat.reduceSub, Array.replicate_succ, Array.replicate_zero, List.push_toArray, List.append_toArray, List.nil_append, List.cons_append]
  obtain ⟨ad1, e1, p0, p1, p2, p3, p4⟩ := at_T47 H1.out line (by omega) (by omega)
  cases e1
  simp only [Int.toNat_natCast] at p1
  clear p0 p2 p3 p4
  go_wp2
  have HB7 := Aside0.mk (below_alloc (below_alloc (below_alloc (Below.refl w.heap.size w) (.cells #[.pointer (some ⟨g, 0, none⟩)] 79)) (.cells #[.int .i64 (line : Int)] 3)) (.cells #[.int .i64 0] 3))
  have b3 := Aside0.mk (blk_alloc (blk_alloc (heap_alloc_new w (.cells #[.pointer (some ⟨g, 0, none⟩)] 79)) (.cells #[.int .i64 (line : Int)] 3)) (.cells #[.int .i64 0] 3))
  have b4 := Aside0.mk (blk_alloc (heap_alloc_two w (.cells #[.pointer (some ⟨g, 0, none⟩)] 79) (.cells #[.int .i64 (line : Int)] 3)) (.cells #[.int .i64 0] 3))
  have b7 : Aside0 ((((w.alloc (.cells #[.pointer (some ⟨g, 0, none⟩)] 79)).alloc (.cells #[.int .i64 (line : Int)] 3)).alloc (.cells #[.int .i64 0] 3)).heap[w.heap.size + 1 + 1]? = some (.cells #[.int .i64 0] 3 (0, 0))) := ⟨by
    have := heap_alloc_new ((w.alloc (.cells #[.pointer (some ⟨g, 0, none⟩)] 79)).alloc (.cells #[.int .i64 (line : Int)] 3)) (.cells #[.int .i64 0] 3)
    rwa [World.size_alloc, World.size_alloc] at this⟩
  have sz7 : (((w.alloc (.cells #[.pointer (some ⟨g, 0, none⟩)] 79)).alloc (.cells #[.int .i64 (line : Int)] 3)).alloc (.cells #[.int .i64 0] 3)).heap.size = w.heap.size + 3 := by simp
  have SZ7 := Aside0.mk sz7
  clear sz7
  generalize ((w.alloc (.cells #[.pointer (some ⟨g, 0, none⟩)] 79)).alloc (.cells #[.int .i64 (line : Int)] 3)).alloc (.cells #[.int .i64 0] 3) = W7 at HB7 b3 b4 b7 SZ7 ⊢
  have P3 := Aside0.mk ((blk_cell b3.out 0).trans (show _ = some (Value.pointer (some ⟨g, 0, none⟩)) from rfl))
  have P4 := Aside0.mk ((blk_cell b4.out 0).trans (show _ = some (Value.int .i64 (line : Int)) from rfl))
  have y1 := pw_cell_below HB7.out p1
  have x1 := pw_cell_below HB7.out PX.out
  have x3 := P3.out
  have x4 := P4.out
  go_quiet (fail)
  have x3' : (W7.drewN nq).cell? ⟨w.heap.size, 0, none⟩ = some (.pointer (some ⟨g, 0, none⟩)) := x3
  clear x3 x4 x1 y1
  go_wp2_with (fail)
  refine (waiting_of g (rd_T47 l1 line).f1 (W7.drewN nq)).mono ?_
  rintro e w2 ⟨rfl, hb1, hb2, hbw, hsz⟩
  have HBB := Aside0.mk (show w2.heap[W7.heap.size]? = _ from hb1)
  have HBG := Aside0.mk (show w2.heap[W7.heap.size + 1]? = _ from hb2)
  have HBW := Aside0.mk (below_step (pw_below_drewN HB7.out nq) hbw)
  have d3 := Aside0.mk (blk_below (blk_drewN b3.out nq) hbw)
  have d4 := Aside0.mk (blk_below (blk_drewN b4.out nq) hbw)
  have d7 := Aside0.mk (blk_below (blk_drewN b7.out nq) hbw)
  have SZ2 : Aside0 (w2.heap.size = w.heap.size + 5) := ⟨by have := SZ7.out; rw [hsz]; show W7.heap.size + 2 = _; omega⟩
  clear hb1 hb2 hbw hsz x3'
  go_wp2_with (fail)
  have hmem : line ∈ candF l1 sh (rd_T47 l1 line).f1 l1.length := candF_mem.2 ⟨hline, rfl, HLS.out⟩
  have HMEM := Aside0.mk hmem
  clear hmem
  refine (wpIn_wide (n := 10)).1 ?_
  refine wpIn_rangeFunc_ownF rfl (by omega) (gf := 78) (lb := #[.pointer (some ⟨W7.heap.size, 0, none⟩), .pointer (some ⟨W7.heap.size + 1, 0, none⟩)]) rfl trivial (enters_of Tryd.func78 (by kernel_rfl) rfl)
    (iter_in 9 (w.heap.size + 1 + 1) W7.heap.size (W7.heap.size + 1) g mb Sl (.slice A2 l2.length c2) (some ad1) As c1 cs l1 left sh (rd_T47 l1 line).f1 w2 HBB.out HBG.out (blk_below HG.out HBW.out) (by have := SZ2.out; omega) (Kd.C_below H1.out HBW.out) hc1 (Kd.C_below H2.out HBW.out) hc2 hsh hl (List.ne_nil_of_mem HMEM.out))
    KpB.trans (fun W l o o' hl2 ho hc hw => KpB.putObj W l o o' hl2 ho hc hw) (Below.refl _ _) (fun _ => rfl)
    (fun pre W => (line ∉ pre.map (·.val) ∧ W.heap[w.heap.size + 1 + 1]? = some (.cells #[.int .i64 (sumTo (fun i => (rd_T49 sh (i : Nat)).f2) (pre.map (·.val)))] 3 (0, 0)) ∧ W.heap[w.heap.size]? = some (.cells #[.pointer (some ⟨g, 0, none⟩)] 79 (0, 0)) ∧ W.heap[w.heap.size + 1]? = some (.cells #[.int .i64 (line : Int)] 3 (0, 0))) ∧ Below w.heap.size w W)
    (fun c pre W => (c = .exit 0 ∧ (∃ pre0, pre.map (·.val) = pre0 ++ [line] ∧ line ∉ pre0) ∧ W.heap[w.heap.size + 1 + 1]? = some (.cells #[.int .i64 (sumTo (fun i => (rd_T49 sh (i : Nat)).f2) (pre.map (·.val)))] 3 (0, 0)) ∧ W.heap[w.heap.size]? = some (.cells #[.pointer (some ⟨g, 0, none⟩)] 79 (0, 0)) ∧ W.heap[w.heap.size + 1]? = some (.cells #[.int .i64 (line : Int)] 3 (0, 0))) ∧ Below w.heap.size w W)
    (OwnFrom.and (Own.from (fun s A B row hs hg hr => ⟨hs.1, heap_kept hs.2.1 hg hr, heap_kept hs.2.2.1 hg hr, heap_kept hs.2.2.2 hg hr⟩) _) (ownFrom_below (Nat.le_refl _) (by have := SZ2.out; omega)))
    (fun c => OwnFrom.and (Own.from (fun s A B row hs hg hr => ⟨hs.1, hs.2.1, heap_kept hs.2.2.1 hg hr, heap_kept hs.2.2.2.1 hg hr, heap_kept hs.2.2.2.2 hg hr⟩) _) (ownFrom_below (Nat.le_refl _) (by have := SZ2.out; omega)))
    ⟨⟨by simp, d7.out, d3.out, d4.out⟩, HBW.out⟩
    (fun x => { tmps := #[.pointer (some ⟨g, 0, none⟩), .int .i64 line, .slice A3 l3.length c3, .pointer (some ⟨w.heap.size, 0, none⟩), .pointer (some ⟨w.heap.size + 1, 0, none⟩), undef, .int .i64 0, .pointer (some ⟨w.heap.size + 1 + 1, 0, none⟩), .int .i64 (rd_T47 l1 line).f1, .int .i64 (x.val : Int), undef, undef, undef, undef, .pointer (some ⟨g, 0, none⟩), .pointer (some ⟨g, 0, none⟩), .pointer (some ⟨g, 0, none⟩), .pointer (some ⟨g, 1, none⟩), .slice (some ad1) l1.length c1, .int .i64 line, .pointer (some (ad1.add (line * 5))), .pointer (some ⟨(ad1.add (line * 5)).block, (ad1.add (line * 5)).off + 1, none⟩), .int .i64 (rd_T47 l1 line).f1, .pointer (some ⟨g, 0, none⟩), .int .i64 (rd_T47 l1 line).f1, .func (.func 78) #[] #[.pointer (some ⟨W7.heap.size, 0, none⟩), .pointer (some ⟨W7.heap.size + 1, 0, none⟩)], .int .i64 (x.val : Int), undef, undef, undef, undef, undef, undef, undef, undef, undef, undef, undef, undef, undef, undef, undef, undef, undef, undef, undef, undef, undef, undef, undef, undef, undef, undef, undef, undef, undef, undef, undef, undef, undef, undef, undef, undef, undef, undef, undef, undef, undef, undef, undef, undef, undef, undef, undef, undef, undef, undef], defers := [] }) ?assign ?body ?done ?stop
  case assign =>
    intro l x W K hK
    gi_wp2
    exact hK
  case body =>
    rintro l pre x W ⟨⟨hnp, h7, h3', h4'⟩, hB⟩ hlen
    have hx := x.isLt
    obtain ⟨ad2, e2, s0, s1, s2, s3⟩ := at_T49 H2.out x.val (by omega) (by omega)
    cases e2
    simp only [Int.toNat_natCast] at s2
    have t2 := pw_cell_below hB s2
    have t9 := pw_cell_below hB PS.out
    clear s0 s1 s2 s3
    have T3 := (blk_cell h3' 0).trans (show _ = some (Value.pointer (some ⟨g, 0, none⟩)) from rfl)
    have T4 := (blk_cell h4' 0).trans (show _ = some (Value.int .i64 (line : Int)) from rfl)
    have T7 := (blk_cell h7 0).trans (show _ = some (Value.int .i64 (sumTo (fun i => (rd_T49 sh (i : Nat)).f2) (pre.map (·.val)))) from rfl)
    have F7 := blk_frozen h7 0
    have HI := Aside0.mk (And.intro hnp (And.intro h7 (And.intro h3' (And.intro h4' hB))))
    have hbd := sumTo_bd (fun i => (rd_T49 sh (i : Nat)).f2) (fun i => share_bd HOK.out i) (pre.map (·.val))
    rw [List.length_map] at hbd
    have hob : 0 ≤ (rd_T49 sh x.val).f2 ∧ (rd_T49 sh x.val).f2 ≤ 20 := (rdmem49 HOK.out (i := x.val) (by omega)).2.2.1
    generalize hsum : sumTo (fun i => (rd_T49 sh (i : Nat)).f2) (pre.map (·.val)) = sm at T7 hbd
    have HSUM := Aside0.mk hsum
    clear hnp h7 h3' h4' hB hsum
    have hms : (pre ++ [x]).map (·.val) = pre.map (·.val) ++ [x.val] := by rw [List.map_append]; rfl
    have HMS := Aside0.mk hms
    clear hms
    have HSM : Aside0 (sumTo (fun i => (rd_T49 sh (i : Nat)).f2) ((pre ++ [x]).map (·.val)) = sm + (rd_T49 sh x.val).f2) := ⟨by rw [HMS.out, sumTo_append, HSUM.out]; simp [sumTo]⟩
    by_cases c : x.val = line
    · have cA : ((x.val : Int) == (line : Int)) = true := beq_iff_eq.2 (by omega)
      have C := Aside0.mk c
      clear c
      gi_wp2
      gi_region
      all_goals
        gi_wp2
        exact ⟨(KeepsOthers.setCell W _ _).trans (KeepsOthers.drew _), ⟨rfl, ⟨_, by rw [HMS.out, C.out], HI.out.1⟩, by rw [HSM.out]; exact (blk_set HI.out.2.1 0 _).trans rfl, blk_far (p := ⟨w.heap.size + 1 + 1, 0, none⟩) HI.out.2.2.1 (by show w.heap.size ≠ w.heap.size + 1 + 1; omega) _, blk_far (p := ⟨w.heap.size + 1 + 1, 0, none⟩) HI.out.2.2.2.1 (by show w.heap.size + 1 ≠ w.heap.size + 1 + 1; omega) _⟩, below_drew (HI.out.2.2.2.2.setCell (p := ⟨w.heap.size + 1 + 1, 0, none⟩) (by show w.heap.size ≤ w.heap.size + 1 + 1; omega) _)⟩
    · have cA : ((x.val : Int) == (line : Int)) = false := beq_eq_false_iff_ne.2 (by omega)
      have C := Aside0.mk c
      clear c
      gi_wp2
      gi_region
      all_goals
        gi_wp2
        exact ⟨(KeepsOthers.setCell W _ _).trans (KeepsOthers.drew _), kpB_set W _ _, ⟨by rw [HMS.out]; exact fun hm => (List.mem_append.1 hm).elim HI.out.1 (fun hm => C.out (List.mem_singleton.1 hm).symm), by rw [HSM.out]; exact (blk_set HI.out.2.1 0 _).trans rfl, blk_far (p := ⟨w.heap.size + 1 + 1, 0, none⟩) HI.out.2.2.1 (by show w.heap.size ≠ w.heap.size + 1 + 1; omega) _, blk_far (p := ⟨w.heap.size + 1 + 1, 0, none⟩) HI.out.2.2.2.1 (by show w.heap.size + 1 ≠ w.heap.size + 1 + 1; omega) _⟩, below_drew (HI.out.2.2.2.2.setCell (p := ⟨w.heap.size + 1 + 1, 0, none⟩) (by show w.heap.size ≤ w.heap.size + 1 + 1; omega) _)⟩
  case done =>
    rintro D ys W hD hS ⟨⟨hnp, _⟩, _⟩ hK
    exact absurd (show line ∈ ys.map (·.val) by rw [hS]; exact (List.mergeSort_perm _ _).mem_iff.2 HMEM.out) hnp
  case stop =>
    rintro D c pre W hD ⟨rest, hrest⟩ ⟨⟨rfl, ⟨pre0, hpre0, hn0⟩, h7, h3', h4'⟩, hB⟩ hK
    have hneed : sumTo (fun i => (rd_T49 sh (i : Nat)).f2) (pre.map (·.val)) = needF l1 sh line := by
      unfold needF
      rw [← hrest, hpre0, List.append_assoc, List.singleton_append, needTo_prefix _ _ _ _ hn0]
    rw [hneed] at h7
    have H7 := Aside0.mk ((blk_cell h7 0).trans (show _ = some (Value.int .i64 (needF l1 sh line)) from rfl))
    have H3' := Aside0.mk ((blk_cell h3' 0).trans (show _ = some (Value.pointer (some ⟨g, 0, none⟩)) from rfl))
    have HBW' := Aside0.mk hB
    have HK := Aside0.mk hK
    have HD := Aside0.mk hD
    clear h7 h3' h4' hB hK hneed hpre0 hn0 hrest hD HBB HBG HBW d3 d4 d7 P3 P4 b3 b4 b7 HB7
    refine wpIn_wide.2 ?_
    go_wp2
    go_loopw [40] (fun i wr => ∃ d : Nat, d ≤ 101 ∧ i = .int .i64 d ∧ Aside0 (thereF l1 l2 sh line l3 = dayF (fun d => cameBy l2 l3 (rd_T47 l1 line).f1 d l3.length) (needF l1 sh line) (101 - d) d) ∧ Aside0 (Below W.heap.size W wr)) (fun i _ => 101 - (intOf i).toNat)
    case atStart => exact ⟨0, by omega, rfl, ⟨rfl⟩, ⟨Below.refl _ _⟩⟩
    case round =>
      obtain ⟨d, hd, rfl, HE, HC⟩ := hrel
      by_cases hd1 : d < 101
      · go_wp2_with (fail)
        obtain ⟨wo, hwo⟩ : ∃ wo : World, wo = wr := ⟨_, rfl⟩
        rw [← hwo] at HC
        go_loopw [11, 45] (fun nn i wi => ∃ j : Nat, j ≤ l3.length ∧ i = .int .i64 j ∧ nn = .int .i64 (cameBy l2 l3 (rd_T47 l1 line).f1 d j) ∧ Aside0 (Below wo.heap.size wo wi)) (fun _ i _ => l3.length - (intOf i).toNat)
        case atStart => exact ⟨0, by omega, rfl, rfl, ⟨by rw [hwo]; exact Below.refl _ _⟩⟩
        case round =>
          obtain ⟨j, hj, rfl, rfl, HD'⟩ := hrel
          have HE' := Aside0.mk (below_step HC.out HD'.out)
          have hcb := cameBy_bd l2 l3 (rd_T47 l1 line).f1 d HCA.out j hj
          by_cases hjl : j < l3.length
          · obtain ⟨ad4, e4, m0, m1⟩ := at_T59 (Kd.C_below (Kd.C_below H4.out HBW'.out) HE'.out) j (by omega) (by omega)
            obtain ⟨ad3, e3, n0, n1, n2, n3, n4⟩ := at_T57 (Kd.C_below (Kd.C_below H3.out HBW'.out) HE'.out) j (by omega) (by omega)
            cases e4; cases e3
            simp only [Int.toNat_natCast] at m0 m1 n0
            have N0 := all_alloc n0
            have z3 := all_alloc (pw_cell_below HE'.out H3'.out)
            have z2 := all_alloc (pw_cell_below HE'.out (pw_cell_below HBW'.out PD.out))
            clear n0 n1 n2 n3 n4
            have hcm : 0 ≤ (rd_T59 l3 j).f1 ∧ (rd_T59 l3 j).f1 ≤ 50 := by
              unfold rd_T59
              rw [Int.toNat_natCast, List.getD_eq_getElem?_getD, List.getElem?_eq_getElem (by omega)]
              exact HCA.out _ (List.getElem_mem _)
            have HD2 := Aside0.mk (below_alloc HD'.out (Obj.cells #[.int .i64 (rd_T59 l3 j).f0, .int .i64 (rd_T59 l3 j).f1] 59))
            by_cases c : (rd_T57 l2 j).f0 = (rd_T47 l1 line).f1
            · have cA : ((rd_T57 l2 j).f0 == (rd_T47 l1 line).f1) = true := beq_iff_eq.2 c
              by_cases e : (rd_T59 l3 j).f0 ≤ d
              · have cB : decide ((rd_T59 l3 j).f0 ≤ (d : Int)) = true := decide_eq_true e
                have DN := Aside0.mk (show cameBy l2 l3 (rd_T47 l1 line).f1 d (j + 1) = cameBy l2 l3 (rd_T47 l1 line).f1 d j + (rd_T59 l3 j).f1 by rw [cameBy, if_pos ⟨c, e⟩])
                clear c e
                go_wp2
                go_roundw
                case rel => exact ⟨j + 1, by omega, by go_num, by rw [DN.out], HD2⟩
                case measure => simp [intOf]; omega
              · have cB : decide ((rd_T59 l3 j).f0 ≤ (d : Int)) = false := decide_eq_false e
                have DN := Aside0.mk (show cameBy l2 l3 (rd_T47 l1 line).f1 d (j + 1) = cameBy l2 l3 (rd_T47 l1 line).f1 d j by rw [cameBy, if_neg (fun h => e h.2)]; omega)
                clear c e
                go_wp2
                go_roundw
                case rel => exact ⟨j + 1, by omega, by go_num, by rw [DN.out], HD2⟩
                case measure => simp [intOf]; omega
            · have cA : ((rd_T57 l2 j).f0 == (rd_T47 l1 line).f1) = false := beq_eq_false_iff_ne.2 c
              have DN := Aside0.mk (show cameBy l2 l3 (rd_T47 l1 line).f1 d (j + 1) = cameBy l2 l3 (rd_T47 l1 line).f1 d j by rw [cameBy, if_neg (fun h => c h.1)]; omega)
              clear c
              go_wp2
              go_roundw
              case rel => exact ⟨j + 1, by omega, by go_num, by rw [DN.out], HD2⟩
              case measure => simp [intOf]; omega
          · obtain rfl : j = l3.length := by omega
            have z7 := pw_cell_below HE'.out H7.out
            have DF := Aside0.mk (show dayF (fun d => cameBy l2 l3 (rd_T47 l1 line).f1 d l3.length) (needF l1 sh line) (101 - d) d = if needF l1 sh line ≤ cameBy l2 l3 (rd_T47 l1 line).f1 d l3.length then (d : Int) else dayF (fun d => cameBy l2 l3 (rd_T47 l1 line).f1 d l3.length) (needF l1 sh line) (101 - (d + 1)) (d + 1) by
              rw [show 101 - d = (101 - (d + 1)) + 1 by omega, dayF])
            by_cases c : needF l1 sh line ≤ cameBy l2 l3 (rd_T47 l1 line).f1 d l3.length
            · have cA : decide (needF l1 sh line ≤ cameBy l2 l3 (rd_T47 l1 line).f1 d l3.length) = true := decide_eq_true c
              rw [if_pos c] at DF
              have HTE := Aside0.mk (HE.out.trans DF.out)
              clear c
              go_wp2
              have hKw : wr.heap[D]? = some (.deferred (some [])) := blk_below HK.out HE'.out
              refine ⟨by simp, .inl ⟨_, _, rfl, run_takeDeferred hKw, ?_⟩⟩
              exact ⟨_, results_tmp rfl _ _ _, by rw [HTE.out]; rfl, (below_step HBW'.out HE'.out).trans (belowK_b (w := w) (Nat.le_refl _) _ D _ _ (by have := SZ2.out; have := HD.out; omega) hKw rfl rfl)⟩
            · have cA : decide (needF l1 sh line ≤ cameBy l2 l3 (rd_T47 l1 line).f1 d l3.length) = false := decide_eq_false c
              rw [if_neg c] at DF
              have HTE := Aside0.mk (HE.out.trans DF.out)
              clear c
              go_wp2
              go_roundw
              case rel => exact ⟨d + 1, by omega, by go_num, HTE, HE'⟩
              case measure => simp [intOf]; omega
      · obtain rfl : d = 101 := by omega
        go_wp2
        have hKw : wr.heap[D]? = some (.deferred (some [])) := blk_below HK.out HC.out
        refine ⟨by simp, .inl ⟨_, _, rfl, run_takeDeferred hKw, ?_⟩⟩
        exact ⟨_, results_tmp rfl _ _ _, by rw [HE.out]; rfl, (below_step HBW'.out HC.out).trans (belowK_b (w := w) (Nat.le_refl _) _ D _ _ (by have := SZ2.out; have := HD.out; omega) hKw rfl rfl)⟩
end Go.Proofs.YtegpepnmnlockaaDoor.PL
namespace Go.Proofs.YtegpepnmnlockaaDoor.PL
open Go.RowKit Go.Proofs.YtegpepnmnlockaaDoorW.PrintWords Go.Proofs.YtegpepnmnlockaaDoorW.PrintLast Go.Proofs.YtegpepnmnlockaaDoorW.PrintMore
set_option linter.unusedVariables false
set_option linter.unusedSimpArgs false
/-- What comes at the worst. -/
def lastCame (l2 : List S57) : List S59 := l2.map fun d => ⟨d.f1.f1, d.f2.f0⟩
theorem lastCame_snoc (l2 : List S57) {i : Nat} (h : i < l2.length) : lastCame (l2.take (i + 1)) = lastCame (l2.take i) ++ [⟨(rd_T57 l2 i).f1.f1, (rd_T57 l2 i).f2.f0⟩] := by
  unfold lastCame
  rw [List.take_add_one, List.map_append, rd_T57, Int.toNat_natCast, List.getD_eq_getElem?_getD, List.getElem?_eq_getElem h]
  rfl
def lack_Last.f (l0 : List Int) (l1 : List S47) (l2 : List S57) (a1 : Int) : Option (Int × Int) :=
  if Few l0 l1 l2 then (if okB l0 l1 l2 = true then (if 0 ≤ a1 ∧ a1 ≤ (l1.length : Int) - 1 then (if (rd_T49 (servF l0 l1 l2).2 a1).f2 = 0 then some (0, 4) else some (thereF l1 l2 (servF l0 l1 l2).2 a1.toNat (lastCame l2), 0)) else some (0, 101)) else some (0, 100)) else none
set_option maxHeartbeats 8000000 in
set_option maxRecDepth 100000 in
theorem lack_Last.calls (A0 : Option Addr) (c0 : Nat) (l0 : List Int) (A1 : Option Addr) (c1 : Nat) (l1 : List S47) (A2 : Option Addr) (c2 : Nat) (l2 : List S57) (a1 : Int) (r1 : Int) (r2 : Int) (w : World)
    (h0 : Kd.C (Kd.int .i64) w A0 l0.length l0) (hc0 : l0.length ≤ c0) (h1 : Kd.C k47 w A1 l1.length l1) (hc1 : l1.length ≤ c1) (h2 : Kd.C k57 w A2 l2.length l2) (hc2 : l2.length ≤ c2) (hfa : Fates w)
    (h : lack_Last.f l0 l1 l2 a1 = some (r1, r2)) :
    Calls Tryd.prog 22 #[.agg #[.slice A0 l0.length c0, .slice A1 l1.length c1, .slice A2 l2.length c2], .int .i64 a1] w fun e w' => e = .returned (.tuple #[.int .i64 r1, .int .i64 r2]) ∧ Below w.heap.size w w' := by
  unfold lack_Last.f at h
  by_cases hf : Few l0 l1 l2
  case neg => rw [if_neg hf] at h; cases h
  rw [if_pos hf] at h
  have H0 := Aside0.mk h0
  have H1 := Aside0.mk h1
  have H2 := Aside0.mk h2
  have HFA := Aside0.mk hfa
  clear h0 h1 h2 hfa
  have hu26 := Tryd.underlying26
  have hu86 := Tryd.underlying86
  have W1 := below_alloc (Below.refl w.heap.size w) (.cells #[.slice A0 l0.length c0, .slice A1 l1.length c1, .slice A2 l2.length c2] 26)
  have HW1 := Aside0.mk W1
  clear W1
  have q := cell_book w A0 A1 A2 c0 c1 c2 l0 l1 l2
  have q0 := q.1
  have q1 := q.2.1
  have q2 := q.2.2
  clear q
  have hgw : IntKind.i64.wrap ((l1.length : Int) - 1) = (l1.length : Int) - 1 := by
    have h9 : (l1.length : Int) < 9000000000000000000 := hf.2.1
    rw [IntKind.wrap_i64]; omega
  by_cases c1_ : 0 ≤ a1 ∧ a1 ≤ (l1.length : Int) - 1
  · have hw1 : lack_within.f a1 0 ((l1.length : Int) - 1) = some true := by rw [within_f, decide_eq_true c1_]
    cases hb : okB l0 l1 l2 with
    | false =>
      rw [hb] at h
      cases h
      go_enter Tryd.func22, Tryd.ntmps22
      go_upto_region 1 with (fail)
      go_region_held3 (fun W => W.cell? ⟨w.heap.size, 0, none⟩ = some (.slice A0 l0.length c0) ∧ W.cell? ⟨w.heap.size, 1, none⟩ = some (.slice A1 l1.length c1) ∧ W.cell? ⟨w.heap.size, 2, none⟩ = some (.slice A2 l2.length c2)) (go_keep)
        (first
          | (go_at_call 50; (with_reducible refine (lack_within.calls _ 0 ((l1.length : Int) - 1) true _ hw1).mono ?_); rintro e w2 ⟨rfl, ⟨nd, rfl⟩⟩)
          | (go_at_call 46; (with_reducible refine (asked_bad A0 A1 A2 c0 c1 c2 l0 l1 l2 true _ (Kd.C_below H0.out (by repeat (first | (with_reducible exact HW1.out) | apply below_drew | apply pw_below_drewN))) hc0 (Kd.C_below H1.out (by repeat (first | (with_reducible exact HW1.out) | apply below_drew | apply pw_below_drewN))) hc1 (Kd.C_below H2.out (by repeat (first | (with_reducible exact HW1.out) | apply below_drew | apply pw_below_drewN))) hc2 hf hb).mono ?_); rintro e w4 ⟨rfl, hb4⟩; have HB4 := Aside0.mk (below_step (by repeat (first | (with_reducible exact HW1.out) | apply below_drew | apply pw_below_drewN)) hb4); have q0' := pw_cell_below hb4 (a := ⟨w.heap.size, 0, none⟩) (v := .slice A0 l0.length c0) q0; have q1' := pw_cell_below hb4 (a := ⟨w.heap.size, 1, none⟩) (v := .slice A1 l1.length c1) q1; have q2' := pw_cell_below hb4 (a := ⟨w.heap.size, 2, none⟩) (v := .slice A2 l2.length c2) q2; clear hb4))
      go_wp2
      refine bodyPost_ret (results_tmp2 rfl _ _ _) rfl ?_
      exact ⟨rfl, HB4.out⟩
    | true =>
      rw [hb] at h
      rw [if_pos rfl, if_pos c1_] at h
      obtain ⟨ln, rfl⟩ := Int.eq_ofNat_of_zero_le c1_.1
      obtain ⟨sh, hsh⟩ : ∃ sh, sh = (servF l0 l1 l2).2 := ⟨_, rfl⟩
      rw [← hsh] at h
      have HSH := Aside0.mk hsh
      clear hsh
      go_enter Tryd.func22, Tryd.ntmps22
      go_upto_region 1 with (fail)
      go_region_held3 (fun W => W.cell? ⟨w.heap.size, 0, none⟩ = some (.slice A0 l0.length c0) ∧ W.cell? ⟨w.heap.size, 1, none⟩ = some (.slice A1 l1.length c1) ∧ W.cell? ⟨w.heap.size, 2, none⟩ = some (.slice A2 l2.length c2)) (go_keep)
        (first
          | (go_at_call 50; (with_reducible refine (lack_within.calls _ 0 ((l1.length : Int) - 1) true _ hw1).mono ?_); rintro e w2 ⟨rfl, ⟨nd, rfl⟩⟩)
          | (go_at_call 46; (with_reducible refine (asked_ok A0 A1 A2 c0 c1 c2 l0 l1 l2 true _ (Kd.C_below H0.out (by repeat (first | (with_reducible exact HW1.out) | apply below_drew | apply pw_below_drewN))) hc0 (Kd.C_below H1.out (by repeat (first | (with_reducible exact HW1.out) | apply below_drew | apply pw_below_drewN))) hc1 (Kd.C_below H2.out (by repeat (first | (with_reducible exact HW1.out) | apply below_drew | apply pw_below_drewN))) hc2 hf hb rfl (Fates.below HFA.out (by repeat (first | (with_reducible exact HW1.out) | apply below_drew | apply pw_below_drewN)))).mono ?_); rintro e w4 ⟨g, mb, n, sv, rfl, hbk⟩; have HBK := Aside0.mk (hbk.lower (by repeat (first | (with_reducible exact HW1.out) | apply below_drew | apply pw_below_drewN))); have HX4 := Aside0.mk ((hbk.below.block w.heap.size (by simp)).trans (heap_alloc_new w (.cells #[.slice A0 l0.length c0, .slice A1 l1.length c1, .slice A2 l2.length c2] 26))); have q0' := pw_cell_below hbk.below (a := ⟨w.heap.size, 0, none⟩) (v := .slice A0 l0.length c0) q0; have q1' := pw_cell_below hbk.below (a := ⟨w.heap.size, 1, none⟩) (v := .slice A1 l1.length c1) q1; have q2' := pw_cell_below hbk.below (a := ⟨w.heap.size, 2, none⟩) (v := .slice A2 l2.length c2) q2; clear hbk))
      have FF := Aside0.mk (okB_facts hb)
      have hn5 : l0.length ≤ 5 := FF.out.2.1
      have hl10 : l1.length ≤ 10 := FF.out.2.2.2.1
      have hl6 : l2.length ≤ 6 := FF.out.2.2.2.2.1
      obtain ⟨As, cs, hsv, hcs, hV⟩ := R_cut HBK.out.rows
      have hls : (servF l0 l1 l2).2.length = l1.length := (servF_len l1 l2 hn5).2
      rw [hls] at hsv hcs hV
      subst hsv
      have HCS := Aside0.mk hcs
      have HV := Aside0.mk hV
      clear hV hcs
      have HOK := Aside0.mk (servF_ok hb).2
      rw [← HSH.out] at HV HOK hls
      have HG2 := Aside0.mk (show w4.heap[g]? = some (.cells (bookCells (.slice A0 l0.length c0) (.slice A1 l1.length c1) (.slice A2 l2.length c2) (servF l0 l1 l2).1 mb (.slice As l1.length cs)) 86 (0, 0)) from HBK.out.cells)
      have HL2 := Aside0.mk HBK.out.below
      have HC9 := Aside0.mk (show Kd.C k49 w4 As l1.length sh by rw [← hls]; exact (Kd.V_reads' HV.out).2.2)
      have HM2 := Aside0.mk HBK.out.map
      have hn1000 := HBK.out.small
      have hgw0 := HBK.out.new
      clear HBK q0 q1 q2 q0' q1' q2' hgw hw1
      have PG := Aside0.mk ((blk_cell HG2.out 9).trans (show _ = some (Value.slice As l1.length cs) from rfl))
      have PX2 := Aside0.mk ((blk_cell HX4.out 2).trans (show _ = some (Value.slice A2 l2.length c2) from rfl))
      obtain ⟨adS, eS, s0, s1, s2, s3⟩ := at_T49 (Kd.V_reads' HV.out).2.2 ln (by omega) (by omega)
      cases eS
      simp only [Int.toNat_natCast] at s2
      clear s0 s1 s3
      have y9 := PG.out
      have hlni : (ln : Int) < (l1.length : Int) := by omega
      by_cases cz : (rd_T49 sh ln).f2 = 0
      · rw [if_pos cz] at h
        cases h
        have cA : ((rd_T49 sh ln).f2 == 0) = true := beq_iff_eq.2 cz
        clear cz
        go_wp2
        refine bodyPost_ret (results_tmp2 rfl _ _ _) rfl ?_
        exact ⟨rfl, HL2.out⟩
      · rw [if_neg cz] at h
        cases h
        have cA : ((rd_T49 sh ln).f2 == 0) = false := beq_eq_false_iff_ne.2 cz
        have CZ := Aside0.mk cz
        clear cz
        have y2 := PX2.out
        go_wp2
        clear y2 y9 s2
        go_loopw [8, 37] (fun v i wr => ∃ j : Nat, j ≤ l2.length ∧ i = .int .i64 j ∧ Aside0 (Kd.R k59 59 wr w4.heap.size (fun _ => True) v (lastCame (l2.take j))) ∧ Aside0 (Below w4.heap.size w4 wr)) (fun _ i _ => l2.length - (intOf i).toNat)
        case atStart => exact ⟨0, by omega, rfl, ⟨Kd.R_nil _ _ _ _ _⟩, ⟨Below.refl _ _⟩⟩
        case round =>
          obtain ⟨j, hj, rfl, HO, HC⟩ := hrel
          by_cases hjl : j < l2.length
          · obtain ⟨ad3, e3, n0, n1, n2, n3, n4⟩ := at_T57 (Kd.C_below (Kd.C_below H2.out HL2.out) HC.out) j (by omega) (by omega)
            cases e3
            simp only [Int.toNat_natCast] at n0 n1 n2 n3 n4
            have DC := Aside0.mk (lastCame_snoc l2 hjl)
            have hO1 := HO.out
            have HCA := Aside0.mk (below_alloc HC.out (Obj.cells #[.int .i64 (rd_T57 l2 j).f0, .int .i64 (rd_T57 l2 j).f1.f0, .int .i64 (rd_T57 l2 j).f1.f1, .int .i64 (rd_T57 l2 j).f2.f0, .int .i64 (rd_T57 l2 j).f2.f1] 57))
            have HOA := Aside0.mk (Kd.R_alloc hO1 (Obj.cells #[.int .i64 (rd_T57 l2 j).f0, .int .i64 (rd_T57 l2 j).f1.f0, .int .i64 (rd_T57 l2 j).f1.f1, .int .i64 (rd_T57 l2 j).f2.f0, .int .i64 (rd_T57 l2 j).f2.f1] 57))
            have HXA := Aside0.mk (heap_alloc_new wr (Obj.cells #[.int .i64 (rd_T57 l2 j).f0, .int .i64 (rd_T57 l2 j).f1.f0, .int .i64 (rd_T57 l2 j).f1.f1, .int .i64 (rd_T57 l2 j).f2.f0, .int .i64 (rd_T57 l2 j).f2.f1] 57))
            clear hO1
            go_upto_region 10 with (fail)
            generalize wr.alloc (Obj.cells #[.int .i64 (rd_T57 l2 j).f0, .int .i64 (rd_T57 l2 j).f1.f0, .int .i64 (rd_T57 l2 j).f1.f1, .int .i64 (rd_T57 l2 j).f2.f0, .int .i64 (rd_T57 l2 j).f2.f1] 57) = W8 at HCA HOA HXA ⊢
            have z2 := (blk_cell HXA.out 2).trans (show _ = some (Value.int .i64 (rd_T57 l2 j).f1.f1) from rfl)
            have z3 := (blk_cell HXA.out 3).trans (show _ = some (Value.int .i64 (rd_T57 l2 j).f2.f0) from rfl)
            clear n0 n1 n2 n3 n4
            go_wp2_with (at_builtin; refine Kd.R_append k59 (w0 := w4) w4.heap.size rfl (.tmp 41) (.tmp 49) 35 59 (.agg #[.int .i64 0, .int .i64 0]) 16 rfl Tryd.underlying35 info59 (by kernel_rfl) (by decide) (by omega) _ (lastCame (l2.take j)) ⟨(rd_T57 l2 j).f1.f1, (rd_T57 l2 j).f2.f0⟩ [.int .i64 (rd_T57 l2 j).f1.f1, .int .i64 (rd_T57 l2 j).f2.f0] (fun _ => True) (fun _ => False) rfl rfl ?aP (fun _ hk => hk.elim) ?aF ?aO ?aB ?aS ?aL ?_; (case aP => exact k59_mkM _ _ _ _); (case aB => exact HCA.out); (case aF => exact (fun _ _ => trivial)); (case aO => exact HOA.out); (case aS => exact below_size HCA.out); (case aL => rw [lastCame, List.length_map, List.length_take]; omega); intro v1 w1 ho1 hb1 hg1 hat1; rw [← DC.out] at ho1; have HO3 := Aside0.mk ho1; have HB3 := Aside0.mk hb1; clear ho1 hb1 hg1 hat1)
            go_roundw
            case rel => exact ⟨j + 1, by omega, by go_num, HO3, HB3⟩
            case measure => simp [intOf]; omega
          · obtain rfl : j = l2.length := by omega
            rw [List.take_length] at HO
            obtain ⟨Av, cv, rfl⟩ := Kd.R_slice HO.out
            have hrd := Kd.R_reads' HO.out
            have hlc : (lastCame l2).length = l2.length := by rw [lastCame, List.length_map]
            have HRD := Aside0.mk hrd
            have HLC := Aside0.mk hlc
            clear hrd hlc
            go_wp2_with (fail)
            have HBX := Aside0.mk (below_step HL2.out HC.out)
            refine (there_calls g mb (.slice A0 l0.length c0) A1 A2 Av _ c1 c2 cv cs l1 l2 (lastCame l2) (servF l0 l1 l2).1 sh ln wr (blk_below HG2.out HC.out) (Kd.C_below H1.out HBX.out) hc1 (Kd.C_below HC9.out HC.out) (by have := HCS.out; omega) hls hl10 HOK.out (Kd.C_below H2.out HBX.out) hc2 HRD.out.2.2 HRD.out.2.1 (by rw [HLC.out]; exact Nat.le_refl _) hl6 (fun c hc => by
              obtain ⟨y, hy, rfl⟩ := List.mem_map.1 hc
              have := FF.out.2.2.2.2.2.2.2 y hy
              unfold okDel at this
              show 0 ≤ y.f2.f0 ∧ y.f2.f0 ≤ 50
              omega) (by omega) (by
              have := (rdmem49 HOK.out (i := ln) (by omega)).2.2.1
              have := CZ.out
              omega)).mono ?_
            rintro e w6 ⟨rfl, hb6⟩
            have HB6 := Aside0.mk (below_step HBX.out hb6)
            clear hb6
            go_wp2
            refine bodyPost_ret (results_tmp2 rfl _ _ _) rfl ?_
            exact ⟨rfl, HB6.out⟩
  · have hw1 : lack_within.f a1 0 ((l1.length : Int) - 1) = some false := by rw [within_f, decide_eq_false c1_]
    cases hb : okB l0 l1 l2 with
    | false =>
      rw [hb] at h
      cases h
      go_enter Tryd.func22, Tryd.ntmps22
      go_upto_region 1 with (fail)
      go_region_held3 (fun W => W.cell? ⟨w.heap.size, 0, none⟩ = some (.slice A0 l0.length c0) ∧ W.cell? ⟨w.heap.size, 1, none⟩ = some (.slice A1 l1.length c1) ∧ W.cell? ⟨w.heap.size, 2, none⟩ = some (.slice A2 l2.length c2)) (go_keep)
        (first
          | (go_at_call 50; (with_reducible refine (lack_within.calls _ 0 ((l1.length : Int) - 1) false _ hw1).mono ?_); rintro e w2 ⟨rfl, ⟨nd, rfl⟩⟩)
          | (go_at_call 46; (with_reducible refine (asked_bad A0 A1 A2 c0 c1 c2 l0 l1 l2 false _ (Kd.C_below H0.out (by repeat (first | (with_reducible exact HW1.out) | apply below_drew | apply pw_below_drewN))) hc0 (Kd.C_below H1.out (by repeat (first | (with_reducible exact HW1.out) | apply below_drew | apply pw_below_drewN))) hc1 (Kd.C_below H2.out (by repeat (first | (with_reducible exact HW1.out) | apply below_drew | apply pw_below_drewN))) hc2 hf hb).mono ?_); rintro e w4 ⟨rfl, hb4⟩; have HB4 := Aside0.mk (below_step (by repeat (first | (with_reducible exact HW1.out) | apply below_drew | apply pw_below_drewN)) hb4); have q0' := pw_cell_below hb4 (a := ⟨w.heap.size, 0, none⟩) (v := .slice A0 l0.length c0) q0; have q1' := pw_cell_below hb4 (a := ⟨w.heap.size, 1, none⟩) (v := .slice A1 l1.length c1) q1; have q2' := pw_cell_below hb4 (a := ⟨w.heap.size, 2, none⟩) (v := .slice A2 l2.length c2) q2; clear hb4))
      go_wp2
      refine bodyPost_ret (results_tmp2 rfl _ _ _) rfl ?_
      exact ⟨rfl, HB4.out⟩
    | true =>
      rw [hb] at h
      rw [if_pos rfl, if_neg c1_] at h
      cases h
      go_enter Tryd.func22, Tryd.ntmps22
      go_upto_region 1 with (fail)
      go_region_held3 (fun W => W.cell? ⟨w.heap.size, 0, none⟩ = some (.slice A0 l0.length c0) ∧ W.cell? ⟨w.heap.size, 1, none⟩ = some (.slice A1 l1.length c1) ∧ W.cell? ⟨w.heap.size, 2, none⟩ = some (.slice A2 l2.length c2)) (go_keep)
        (first
          | (go_at_call 50; (with_reducible refine (lack_within.calls _ 0 ((l1.length : Int) - 1) false _ hw1).mono ?_); rintro e w2 ⟨rfl, ⟨nd, rfl⟩⟩)
          | (go_at_call 46; (with_reducible refine (asked_not A0 A1 A2 c0 c1 c2 l0 l1 l2 false _ (Kd.C_below H0.out (by repeat (first | (with_reducible exact HW1.out) | apply below_drew | apply pw_below_drewN))) hc0 (Kd.C_below H1.out (by repeat (first | (with_reducible exact HW1.out) | apply below_drew | apply pw_below_drewN))) hc1 (Kd.C_below H2.out (by repeat (first | (with_reducible exact HW1.out) | apply below_drew | apply pw_below_drewN))) hc2 hf hb rfl).mono ?_); rintro e w4 ⟨rfl, hb4⟩; have HB4 := Aside0.mk (below_step (by repeat (first | (with_reducible exact HW1.out) | apply below_drew | apply pw_below_drewN)) hb4); have q0' := pw_cell_below hb4 (a := ⟨w.heap.size, 0, none⟩) (v := .slice A0 l0.length c0) q0; have q1' := pw_cell_below hb4 (a := ⟨w.heap.size, 1, none⟩) (v := .slice A1 l1.length c1) q1; have q2' := pw_cell_below hb4 (a := ⟨w.heap.size, 2, none⟩) (v := .slice A2 l2.length c2) q2; clear hb4))
      go_wp2
      refine bodyPost_ret (results_tmp2 rfl _ _ _) rfl ?_
      exact ⟨rfl, HB4.out⟩
end Go.Proofs.YtegpepnmnlockaaDoor.PL
namespace Go.Proofs.YtegpepnmnlockaaDoor.PL
open Go.RowKit Go.Proofs.YtegpepnmnlockaaDoorW.PrintWords Go.Proofs.YtegpepnmnlockaaDoorW.PrintLast Go.Proofs.YtegpepnmnlockaaDoorW.PrintMore
set_option linter.unusedVariables false
set_option linter.unusedSimpArgs false
/-- Can a delivery have come so? -/
def inDay (d : S57) (c : S59) : Prop := d.f1.f0 ≤ c.f0 ∧ c.f0 ≤ d.f1.f1
def inBy (d : S57) (c : S59) : Prop := d.f2.f0 ≤ c.f1 ∧ c.f1 ≤ d.f2.f1
instance (d : S57) (c : S59) : Decidable (inDay d c) := by unfold inDay; infer_instance
instance (d : S57) (c : S59) : Decidable (inBy d c) := by unfold inBy; infer_instance
def didAt (l2 : List S57) (l3 : List S59) (n : Nat) : Bool := ((l3.length : Int) == (l2.length : Int)) && (List.range n).all fun i => decide (inDay (rd_T57 l2 (i : Nat)) (rd_T59 l3 (i : Nat))) && decide (inBy (rd_T57 l2 (i : Nat)) (rd_T59 l3 (i : Nat)))
theorem didAt_succ (l2 : List S57) (l3 : List S59) (n : Nat) : didAt l2 l3 (n + 1) = (didAt l2 l3 n && (decide (inDay (rd_T57 l2 n) (rd_T59 l3 n)) && decide (inBy (rd_T57 l2 n) (rd_T59 l3 n)))) := by
  simp [didAt, List.range_succ, Bool.and_assoc]
theorem didAt_false {l2 : List S57} {l3 : List S59} {n : Nat} (h : didAt l2 l3 n = false) : ∀ m, n ≤ m → didAt l2 l3 m = false
  | m, hm => by
    cases hm' : didAt l2 l3 m with
    | false => rfl
    | true =>
      rw [← h]
      unfold didAt at *
      rw [Bool.and_eq_true, List.all_eq_true] at hm'
      rw [hm'.1, Bool.true_and]
      exact (List.all_eq_true.2 (fun x hx => hm'.2 x (List.mem_range.2 (by have := List.mem_range.1 hx; omega)))).symm
theorem didAt_bd {l0 : List Int} {l1 : List S47} {l2 : List S57} {l3 : List S59} (hb : okB l0 l1 l2 = true) (h : didAt l2 l3 l3.length = true) (hl : l3.length = l2.length) : ∀ c ∈ l3, 0 ≤ c.f1 ∧ c.f1 ≤ 50 := fun c hc => by
  obtain ⟨i, hi, rfl⟩ := List.mem_iff_getElem.1 hc
  unfold didAt at h
  rw [Bool.and_eq_true, List.all_eq_true] at h
  have h2 := h.2 i (List.mem_range.2 hi)
  rw [Bool.and_eq_true, decide_eq_true_iff, decide_eq_true_iff] at h2
  have h3 := okB_del hb (i := i) (by omega)
  have h4 : rd_T59 l3 (i : Nat) = l3[i] := by unfold rd_T59; rw [Int.toNat_natCast, List.getD_eq_getElem?_getD, List.getElem?_eq_getElem hi]; rfl
  rw [h4] at h2
  unfold inBy at h2
  unfold okDel at h3
  omega
def lack_Come.f (l0 : List Int) (l1 : List S47) (l2 : List S57) (a1 : Int) (l3 : List S59) : Option (Int × Int) :=
  if Few l0 l1 l2 then (if okB l0 l1 l2 = true then (if 0 ≤ a1 ∧ a1 ≤ (l1.length : Int) - 1 then (if didAt l2 l3 l3.length = true then (if (rd_T49 (servF l0 l1 l2).2 a1).f2 = 0 then some (0, 4) else some (thereF l1 l2 (servF l0 l1 l2).2 a1.toNat l3, 0)) else some (0, 102)) else some (0, 101)) else some (0, 100)) else none
set_option maxHeartbeats 8000000 in
set_option maxRecDepth 100000 in
theorem lack_Come.calls (A0 : Option Addr) (c0 : Nat) (l0 : List Int) (A1 : Option Addr) (c1 : Nat) (l1 : List S47) (A2 : Option Addr) (c2 : Nat) (l2 : List S57) (a1 : Int) (A3 : Option Addr) (c3 : Nat) (l3 : List S59) (r1 : Int) (r2 : Int) (w : World)
    (h0 : Kd.C (Kd.int .i64) w A0 l0.length l0) (hc0 : l0.length ≤ c0) (h1 : Kd.C k47 w A1 l1.length l1) (hc1 : l1.length ≤ c1) (h2 : Kd.C k57 w A2 l2.length l2) (hc2 : l2.length ≤ c2) (h3 : Kd.C k59 w A3 l3.length l3) (hc3 : l3.length ≤ c3) (hfa : Fates w)
    (h : lack_Come.f l0 l1 l2 a1 l3 = some (r1, r2)) :
    Calls Tryd.prog 20 #[.agg #[.slice A0 l0.length c0, .slice A1 l1.length c1, .slice A2 l2.length c2], .int .i64 a1, .slice A3 l3.length c3] w fun e w' => e = .returned (.tuple #[.int .i64 r1, .int .i64 r2]) ∧ Below w.heap.size w w' := by
  unfold lack_Come.f at h
  by_cases hf : Few l0 l1 l2
  case neg => rw [if_neg hf] at h; cases h
  rw [if_pos hf] at h
  have H0 := Aside0.mk h0
  have H1 := Aside0.mk h1
  have H2 := Aside0.mk h2
  have HFA := Aside0.mk hfa
  have H3 := Aside0.mk h3
  clear h0 h1 h2 hfa h3
  have hu26 := Tryd.underlying26
  have hu86 := Tryd.underlying86
  have W1 := below_alloc (Below.refl w.heap.size w) (.cells #[.slice A0 l0.length c0, .slice A1 l1.length c1, .slice A2 l2.length c2] 26)
  have HW1 := Aside0.mk W1
  clear W1
  have q := cell_book w A0 A1 A2 c0 c1 c2 l0 l1 l2
  have q0 := q.1
  have q1 := q.2.1
  have q2 := q.2.2
  clear q
  have hgw : IntKind.i64.wrap ((l1.length : Int) - 1) = (l1.length : Int) - 1 := by
    have h9 : (l1.length : Int) < 9000000000000000000 := hf.2.1
    rw [IntKind.wrap_i64]; omega
  by_cases c1_ : 0 ≤ a1 ∧ a1 ≤ (l1.length : Int) - 1
  · have hw1 : lack_within.f a1 0 ((l1.length : Int) - 1) = some true := by rw [within_f, decide_eq_true c1_]
    cases hb : okB l0 l1 l2 with
    | false =>
      rw [hb] at h
      cases h
      go_enter Tryd.func20, Tryd.ntmps20
      go_upto_region 1 with (fail)
      go_region_held3 (fun W => W.cell? ⟨w.heap.size, 0, none⟩ = some (.slice A0 l0.length c0) ∧ W.cell? ⟨w.heap.size, 1, none⟩ = some (.slice A1 l1.length c1) ∧ W.cell? ⟨w.heap.size, 2, none⟩ = some (.slice A2 l2.length c2)) (go_keep)
        (first
          | (go_at_call 50; (with_reducible refine (lack_within.calls _ 0 ((l1.length : Int) - 1) true _ hw1).mono ?_); rintro e w2 ⟨rfl, ⟨nd, rfl⟩⟩)
          | (go_at_call 46; (with_reducible refine (asked_bad A0 A1 A2 c0 c1 c2 l0 l1 l2 true _ (Kd.C_below H0.out (by repeat (first | (with_reducible exact HW1.out) | apply below_drew | apply pw_below_drewN))) hc0 (Kd.C_below H1.out (by repeat (first | (with_reducible exact HW1.out) | apply below_drew | apply pw_below_drewN))) hc1 (Kd.C_below H2.out (by repeat (first | (with_reducible exact HW1.out) | apply below_drew | apply pw_below_drewN))) hc2 hf hb).mono ?_); rintro e w4 ⟨rfl, hb4⟩; have HB4 := Aside0.mk (below_step (by repeat (first | (with_reducible exact HW1.out) | apply below_drew | apply pw_below_drewN)) hb4); have q0' := pw_cell_below hb4 (a := ⟨w.heap.size, 0, none⟩) (v := .slice A0 l0.length c0) q0; have q1' := pw_cell_below hb4 (a := ⟨w.heap.size, 1, none⟩) (v := .slice A1 l1.length c1) q1; have q2' := pw_cell_below hb4 (a := ⟨w.heap.size, 2, none⟩) (v := .slice A2 l2.length c2) q2; clear hb4))
      go_wp2
      refine bodyPost_ret (results_tmp2 rfl _ _ _) rfl ?_
      exact ⟨rfl, HB4.out⟩
    | true =>
      rw [hb] at h
      rw [if_pos rfl, if_pos c1_] at h
      obtain ⟨ln, rfl⟩ := Int.eq_ofNat_of_zero_le c1_.1
      obtain ⟨sh, hsh⟩ : ∃ sh, sh = (servF l0 l1 l2).2 := ⟨_, rfl⟩
      rw [← hsh] at h
      have HSH := Aside0.mk hsh
      clear hsh
      have HH := Aside0.mk h
      clear h
      go_enter Tryd.func20, Tryd.ntmps20
      go_upto_region 1 with (fail)
      go_region_held3 (fun W => W.cell? ⟨w.heap.size, 0, none⟩ = some (.slice A0 l0.length c0) ∧ W.cell? ⟨w.heap.size, 1, none⟩ = some (.slice A1 l1.length c1) ∧ W.cell? ⟨w.heap.size, 2, none⟩ = some (.slice A2 l2.length c2)) (go_keep)
        (first
          | (go_at_call 50; (with_reducible refine (lack_within.calls _ 0 ((l1.length : Int) - 1) true _ hw1).mono ?_); rintro e w2 ⟨rfl, ⟨nd, rfl⟩⟩)
          | (go_at_call 46; (with_reducible refine (asked_ok A0 A1 A2 c0 c1 c2 l0 l1 l2 true _ (Kd.C_below H0.out (by repeat (first | (with_reducible exact HW1.out) | apply below_drew | apply pw_below_drewN))) hc0 (Kd.C_below H1.out (by repeat (first | (with_reducible exact HW1.out) | apply below_drew | apply pw_below_drewN))) hc1 (Kd.C_below H2.out (by repeat (first | (with_reducible exact HW1.out) | apply below_drew | apply pw_below_drewN))) hc2 hf hb rfl (Fates.below HFA.out (by repeat (first | (with_reducible exact HW1.out) | apply below_drew | apply pw_below_drewN)))).mono ?_); rintro e w4 ⟨g, mb, n, sv, rfl, hbk⟩; have HBK := Aside0.mk (hbk.lower (by repeat (first | (with_reducible exact HW1.out) | apply below_drew | apply pw_below_drewN))); have HX4 := Aside0.mk ((hbk.below.block w.heap.size (by simp)).trans (heap_alloc_new w (.cells #[.slice A0 l0.length c0, .slice A1 l1.length c1, .slice A2 l2.length c2] 26))); have q0' := pw_cell_below hbk.below (a := ⟨w.heap.size, 0, none⟩) (v := .slice A0 l0.length c0) q0; have q1' := pw_cell_below hbk.below (a := ⟨w.heap.size, 1, none⟩) (v := .slice A1 l1.length c1) q1; have q2' := pw_cell_below hbk.below (a := ⟨w.heap.size, 2, none⟩) (v := .slice A2 l2.length c2) q2; clear hbk))
      have FF := Aside0.mk (okB_facts hb)
      have hn5 : l0.length ≤ 5 := FF.out.2.1
      have hl10 : l1.length ≤ 10 := FF.out.2.2.2.1
      have hl6 : l2.length ≤ 6 := FF.out.2.2.2.2.1
      obtain ⟨As, cs, hsv, hcs, hV⟩ := R_cut HBK.out.rows
      have hls : (servF l0 l1 l2).2.length = l1.length := (servF_len l1 l2 hn5).2
      rw [hls] at hsv hcs hV
      subst hsv
      have HCS := Aside0.mk hcs
      have HV := Aside0.mk hV
      clear hV hcs
      have HOK := Aside0.mk (servF_ok hb).2
      rw [← HSH.out] at HV HOK hls
      have HG2 := Aside0.mk (show w4.heap[g]? = some (.cells (bookCells (.slice A0 l0.length c0) (.slice A1 l1.length c1) (.slice A2 l2.length c2) (servF l0 l1 l2).1 mb (.slice As l1.length cs)) 86 (0, 0)) from HBK.out.cells)
      have HL2 := Aside0.mk HBK.out.below
      have HC9 := Aside0.mk (show Kd.C k49 w4 As l1.length sh by rw [← hls]; exact (Kd.V_reads' HV.out).2.2)
      have HM2 := Aside0.mk HBK.out.map
      have hn1000 := HBK.out.small
      have hgw0 := HBK.out.new
      clear HBK q0 q1 q2 q0' q1' q2' hgw hw1
      have PG := Aside0.mk ((blk_cell HG2.out 9).trans (show _ = some (Value.slice As l1.length cs) from rfl))
      have PX2 := Aside0.mk ((blk_cell HX4.out 2).trans (show _ = some (Value.slice A2 l2.length c2) from rfl))
      have y2 := PX2.out
      go_wp2_with (fail)
      clear y2
      have hd0 : didAt l2 l3 0 = ((l3.length : Int) == (l2.length : Int)) := by simp [didAt]
      have HD0 := Aside0.mk hd0
      clear hd0
      go_loopw [10, 11] (fun v i wr => ∃ j : Nat, j ≤ l3.length ∧ i = .int .i64 j ∧ v = .bool (didAt l2 l3 j) ∧ Aside0 (Below w4.heap.size w4 wr)) (fun _ i _ => l3.length - (intOf i).toNat)
      case atStart => exact ⟨0, by omega, rfl, by rw [HD0.out], ⟨Below.refl _ _⟩⟩
      case round =>
        obtain ⟨j, hj, rfl, rfl, HC⟩ := hrel
        cases hv : didAt l2 l3 j with
        | false =>
          have HF := Aside0.mk (didAt_false hv l3.length hj)
          have HH2 := HH.out
          rw [HF.out, if_neg (by decide)] at HH2
          cases HH2
          have HB9 := Aside0.mk (below_step HL2.out HC.out)
          clear hv
          go_wp2
          refine bodyPost_ret (results_tmp2 rfl _ _ _) rfl ?_
          exact ⟨rfl, HB9.out⟩
        | true =>
          have HVV := Aside0.mk hv
          have hlen : l3.length = l2.length := by
            unfold didAt at hv
            rw [Bool.and_eq_true] at hv
            have := eq_of_beq hv.1
            omega
          clear hv
          by_cases hjl : j < l3.length
          · obtain ⟨ad4, e4, m0, m1⟩ := at_T59 (Kd.C_below (Kd.C_below H3.out HL2.out) HC.out) j (by omega) (by omega)
            obtain ⟨ad3, e3, n0, n1, n2, n3, n4⟩ := at_T57 (Kd.C_below (Kd.C_below H2.out HL2.out) HC.out) j (by omega) (by omega)
            cases e4; cases e3
            simp only [Int.toNat_natCast] at m0 m1 n0 n1 n2 n3 n4
            have M0 := all_alloc m0
            have M1 := all_alloc m1
            clear m0 m1
            have y2 := pw_cell_below HC.out PX2.out
            by_cases dA : (rd_T57 l2 j).f1.f0 ≤ (rd_T59 l3 j).f0 ∧ (rd_T59 l3 j).f0 ≤ (rd_T57 l2 j).f1.f1
            · by_cases dB : (rd_T57 l2 j).f2.f0 ≤ (rd_T59 l3 j).f1 ∧ (rd_T59 l3 j).f1 ≤ (rd_T57 l2 j).f2.f1
              · have cA := Aside0.mk (show lack_within.f (rd_T59 l3 j).f0 (rd_T57 l2 j).f1.f0 (rd_T57 l2 j).f1.f1 = some true by rw [within_f]; exact congrArg some (decide_eq_true dA))
                have cB := Aside0.mk (show lack_within.f (rd_T59 l3 j).f1 (rd_T57 l2 j).f2.f0 (rd_T57 l2 j).f2.f1 = some true by rw [within_f]; exact congrArg some (decide_eq_true dB))
                have DS := didAt_succ l2 l3 j
                rw [decide_eq_true (show inDay (rd_T57 l2 j) (rd_T59 l3 j) from dA), decide_eq_true (show inBy (rd_T57 l2 j) (rd_T59 l3 j) from dB)] at DS
                have DSA := Aside0.mk (show didAt l2 l3 (j + 1) = true by rw [DS, HVV.out]; rfl)
                clear DS dA dB
                go_wp2
                go_quiet ((go_at_call 50; (with_reducible first | refine (lack_within.calls _ _ _ true _ cA.out).mono ?_ | refine (lack_within.calls _ _ _ true _ cB.out).mono ?_); rintro e w' ⟨rfl, ⟨nd, rfl⟩⟩; exact ⟨rfl, _, World.drewN_drewN _ _ _⟩))
                go_wp2
                go_roundw
                case rel => exact ⟨j + 1, by omega, by go_num, by rw [DSA.out], ⟨by repeat (first | (with_reducible exact HC.out) | apply below_alloc | apply pw_below_drewN | apply below_drew)⟩⟩
                case measure => simp [intOf]; omega
              · have cA := Aside0.mk (show lack_within.f (rd_T59 l3 j).f0 (rd_T57 l2 j).f1.f0 (rd_T57 l2 j).f1.f1 = some true by rw [within_f]; exact congrArg some (decide_eq_true dA))
                have cB := Aside0.mk (show lack_within.f (rd_T59 l3 j).f1 (rd_T57 l2 j).f2.f0 (rd_T57 l2 j).f2.f1 = some false by rw [within_f]; exact congrArg some (decide_eq_false dB))
                have DS := didAt_succ l2 l3 j
                rw [decide_eq_true (show inDay (rd_T57 l2 j) (rd_T59 l3 j) from dA), decide_eq_false (show ¬ inBy (rd_T57 l2 j) (rd_T59 l3 j) from dB)] at DS
                have DSA := Aside0.mk (show didAt l2 l3 (j + 1) = false by rw [DS, HVV.out]; rfl)
                clear DS dA dB
                go_wp2
                go_quiet ((go_at_call 50; (with_reducible first | refine (lack_within.calls _ _ _ true _ cA.out).mono ?_ | refine (lack_within.calls _ _ _ false _ cB.out).mono ?_); rintro e w' ⟨rfl, ⟨nd, rfl⟩⟩; exact ⟨rfl, _, World.drewN_drewN _ _ _⟩))
                go_wp2
                go_roundw
                case rel => exact ⟨j + 1, by omega, by go_num, by rw [DSA.out], ⟨by repeat (first | (with_reducible exact HC.out) | apply below_alloc | apply pw_below_drewN | apply below_drew)⟩⟩
                case measure => simp [intOf]; omega
            · have cA := Aside0.mk (show lack_within.f (rd_T59 l3 j).f0 (rd_T57 l2 j).f1.f0 (rd_T57 l2 j).f1.f1 = some false by rw [within_f]; exact congrArg some (decide_eq_false dA))
              have DS := didAt_succ l2 l3 j
              rw [decide_eq_false (show ¬ inDay (rd_T57 l2 j) (rd_T59 l3 j) from dA), Bool.false_and] at DS
              have DSA := Aside0.mk (show didAt l2 l3 (j + 1) = false by rw [DS, HVV.out]; rfl)
              clear DS dA
              go_wp2
              go_quiet ((go_at_call 50; (with_reducible refine (lack_within.calls _ _ _ false _ cA.out).mono ?_); rintro e w' ⟨rfl, ⟨nd, rfl⟩⟩; exact ⟨rfl, _, World.drewN_drewN _ _ _⟩))
              go_wp2
              go_roundw
              case rel => exact ⟨j + 1, by omega, by go_num, by rw [DSA.out], ⟨by repeat (first | (with_reducible exact HC.out) | apply below_alloc | apply pw_below_drewN | apply below_drew)⟩⟩
              case measure => simp [intOf]; omega
          · obtain rfl : j = l3.length := by omega
            have HLEN := Aside0.mk hlen
            clear hlen
            have HH2 := HH.out
            rw [HVV.out, if_pos rfl] at HH2
            clear HH
            obtain ⟨adS, eS, s0, s1, s2, s3⟩ := at_T49 (Kd.C_below HC9.out HC.out) ln (by omega) (by omega)
            cases eS
            simp only [Int.toNat_natCast] at s2
            clear s0 s1 s3
            have y9 := pw_cell_below HC.out PG.out
            have hlni : (ln : Int) < (l1.length : Int) := by omega
            have HBX := Aside0.mk (below_step HL2.out HC.out)
            by_cases cz : (rd_T49 sh ln).f2 = 0
            · rw [if_pos cz] at HH2
              cases HH2
              have cA : ((rd_T49 sh ln).f2 == 0) = true := beq_iff_eq.2 cz
              clear cz
              go_wp2
              refine bodyPost_ret (results_tmp2 rfl _ _ _) rfl ?_
              exact ⟨rfl, HBX.out⟩
            · rw [if_neg cz] at HH2
              cases HH2
              have cA : ((rd_T49 sh ln).f2 == 0) = false := beq_eq_false_iff_ne.2 cz
              have CZ := Aside0.mk cz
              clear cz
              go_wp2_with (fail)
              refine (there_calls g mb (.slice A0 l0.length c0) A1 A2 A3 _ c1 c2 c3 cs l1 l2 l3 (servF l0 l1 l2).1 sh ln wr (blk_below HG2.out HC.out) (Kd.C_below H1.out HBX.out) hc1 (Kd.C_below HC9.out HC.out) (by have := HCS.out; omega) hls hl10 HOK.out (Kd.C_below H2.out HBX.out) hc2 (Kd.C_below H3.out HBX.out) hc3 (by have := HLEN.out; omega) hl6 (didAt_bd hb HVV.out HLEN.out) (by omega) (by
                have := (rdmem49 HOK.out (i := ln) (by omega)).2.2.1
                have := CZ.out
                omega)).mono ?_
              rintro e w6 ⟨rfl, hb6⟩
              have HB6 := Aside0.mk (below_step HBX.out hb6)
              clear hb6
              go_wp2
              refine bodyPost_ret (results_tmp2 rfl _ _ _) rfl ?_
              exact ⟨rfl, HB6.out⟩
  · have hw1 : lack_within.f a1 0 ((l1.length : Int) - 1) = some false := by rw [within_f, decide_eq_false c1_]
    cases hb : okB l0 l1 l2 with
    | false =>
      rw [hb] at h
      cases h
      go_enter Tryd.func20, Tryd.ntmps20
      go_upto_region 1 with (fail)
      go_region_held3 (fun W => W.cell? ⟨w.heap.size, 0, none⟩ = some (.slice A0 l0.length c0) ∧ W.cell? ⟨w.heap.size, 1, none⟩ = some (.slice A1 l1.length c1) ∧ W.cell? ⟨w.heap.size, 2, none⟩ = some (.slice A2 l2.length c2)) (go_keep)
        (first
          | (go_at_call 50; (with_reducible refine (lack_within.calls _ 0 ((l1.length : Int) - 1) false _ hw1).mono ?_); rintro e w2 ⟨rfl, ⟨nd, rfl⟩⟩)
          | (go_at_call 46; (with_reducible refine (asked_bad A0 A1 A2 c0 c1 c2 l0 l1 l2 false _ (Kd.C_below H0.out (by repeat (first | (with_reducible exact HW1.out) | apply below_drew | apply pw_below_drewN))) hc0 (Kd.C_below H1.out (by repeat (first | (with_reducible exact HW1.out) | apply below_drew | apply pw_below_drewN))) hc1 (Kd.C_below H2.out (by repeat (first | (with_reducible exact HW1.out) | apply below_drew | apply pw_below_drewN))) hc2 hf hb).mono ?_); rintro e w4 ⟨rfl, hb4⟩; have HB4 := Aside0.mk (below_step (by repeat (first | (with_reducible exact HW1.out) | apply below_drew | apply pw_below_drewN)) hb4); have q0' := pw_cell_below hb4 (a := ⟨w.heap.size, 0, none⟩) (v := .slice A0 l0.length c0) q0; have q1' := pw_cell_below hb4 (a := ⟨w.heap.size, 1, none⟩) (v := .slice A1 l1.length c1) q1; have q2' := pw_cell_below hb4 (a := ⟨w.heap.size, 2, none⟩) (v := .slice A2 l2.length c2) q2; clear hb4))
      go_wp2
      refine bodyPost_ret (results_tmp2 rfl _ _ _) rfl ?_
      exact ⟨rfl, HB4.out⟩
    | true =>
      rw [hb] at h
      rw [if_pos rfl, if_neg c1_] at h
      cases h
      go_enter Tryd.func20, Tryd.ntmps20
      go_upto_region 1 with (fail)
      go_region_held3 (fun W => W.cell? ⟨w.heap.size, 0, none⟩ = some (.slice A0 l0.length c0) ∧ W.cell? ⟨w.heap.size, 1, none⟩ = some (.slice A1 l1.length c1) ∧ W.cell? ⟨w.heap.size, 2, none⟩ = some (.slice A2 l2.length c2)) (go_keep)
        (first
          | (go_at_call 50; (with_reducible refine (lack_within.calls _ 0 ((l1.length : Int) - 1) false _ hw1).mono ?_); rintro e w2 ⟨rfl, ⟨nd, rfl⟩⟩)
          | (go_at_call 46; (with_reducible refine (asked_not A0 A1 A2 c0 c1 c2 l0 l1 l2 false _ (Kd.C_below H0.out (by repeat (first | (with_reducible exact HW1.out) | apply below_drew | apply pw_below_drewN))) hc0 (Kd.C_below H1.out (by repeat (first | (with_reducible exact HW1.out) | apply below_drew | apply pw_below_drewN))) hc1 (Kd.C_below H2.out (by repeat (first | (with_reducible exact HW1.out) | apply below_drew | apply pw_below_drewN))) hc2 hf hb rfl).mono ?_); rintro e w4 ⟨rfl, hb4⟩; have HB4 := Aside0.mk (below_step (by repeat (first | (with_reducible exact HW1.out) | apply below_drew | apply pw_below_drewN)) hb4); have q0' := pw_cell_below hb4 (a := ⟨w.heap.size, 0, none⟩) (v := .slice A0 l0.length c0) q0; have q1' := pw_cell_below hb4 (a := ⟨w.heap.size, 1, none⟩) (v := .slice A1 l1.length c1) q1; have q2' := pw_cell_below hb4 (a := ⟨w.heap.size, 2, none⟩) (v := .slice A2 l2.length c2) q2; clear hb4))
      go_wp2
      refine bodyPost_ret (results_tmp2 rfl _ _ _) rfl ?_
      exact ⟨rfl, HB4.out⟩
end Go.Proofs.YtegpepnmnlockaaDoor.PL
namespace Go.Proofs.YtegpepnmnlockaaDoor.PL
open Go.RowKit Go.Proofs.YtegpepnmnlockaaDoorW.PrintWords Go.Proofs.YtegpepnmnlockaaDoorW.PrintLast Go.Proofs.YtegpepnmnlockaaDoorW.PrintMore
set_option linter.unusedVariables false
set_option linter.unusedSimpArgs false
theorem wrap_id {x : Int} (h1 : -1000000000 ≤ x) (h2 : x ≤ 1000000000) : wrap64 x = x := by unfold wrap64; omega
section
variable (l0 : List Int) (l1 : List S47) (l2 : List S57) (sh : List S49) (good : Int)
end
end Go.Proofs.YtegpepnmnlockaaDoor.PL
namespace Go.Proofs.YtegpepnmnlockaaDoor.PL
open Go.RowKit Go.Proofs.YtegpepnmnlockaaDoorW.PrintWords Go.Proofs.YtegpepnmnlockaaDoorW.PrintLast Go.Proofs.YtegpepnmnlockaaDoorW.PrintMore
attribute [local go_sem] max2_int min2_int max_two min_two max_three min_three max_four min_four   -- for this text's walks alone
set_option linter.unusedVariables false
set_option linter.unusedSimpArgs false
def wishbookref00_Spin.f (a0 : Int) (a1 : Int) : Option (Int) := if a1 < 1 then (some 0) else (if a1 = 0 then (none) else (if (Int.tmod a0 a1) < 0 then (some (wrap64 ((Int.tmod a0 a1) + a1))) else (some (Int.tmod a0 a1))))
set_option maxHeartbeats 8000000 in
set_option maxRecDepth 100000 in
theorem wishbookref00_Spin.calls (a0 : Int) (a1 : Int) (r : Int) (w : World) (h : wishbookref00_Spin.f a0 a1 = some r) :
    Calls Tryd.prog 38 #[.int .i64 a0, .int .i64 a1] w fun e w' => e = .returned (.int .i64 r) ∧ Drawn0 w w' := by
  have H : (if a1 < 1 then (some 0) else (if a1 = 0 then (none) else (if (Int.tmod a0 a1) < 0 then (some (wrap64 ((Int.tmod a0 a1) + a1))) else (some (Int.tmod a0 a1))))) = some r := h
  clear h
  by_cases c3 : a1 < 1
  · rw [if_pos c3] at H
    have c3b0 : decide (a1 < 1) = true := decide_eq_true c3
    clear c3
    obtain rfl := Option.some.inj H
    go_enter Tryd.func38, Tryd.ntmps38
    go_wp2
    go_ret
    exact ⟨by first | rfl | (simp; done) | (simp [*]; done), by repeat (first | exact Drawn0.refl _ | apply Drawn0.step)⟩
  · rw [if_neg c3] at H
    have c3b0 : decide (a1 < 1) = false := decide_eq_false c3
    clear c3
    by_cases c4 : a1 = 0
    · rw [if_pos c4] at H
      exact absurd H (by simp)
    · rw [if_neg c4] at H
      have c4b0 : (a1 == 0) = false := beq_eq_false_iff_ne.mpr c4
      have c4b1 : (a1 != 0) = true := bne_iff_ne.mpr c4
      by_cases c5 : (Int.tmod a0 a1) < 0
      · rw [if_pos c5] at H
        have c5b0 : decide ((Int.tmod a0 a1) < 0) = true := decide_eq_true c5
        clear c5
        obtain rfl := Option.some.inj H
        go_enter Tryd.func38, Tryd.ntmps38
        go_wp2
        go_ret
        exact ⟨by first | rfl | (simp; done) | (simp [*]; done), by repeat (first | exact Drawn0.refl _ | apply Drawn0.step)⟩
      · rw [if_neg c5] at H
        have c5b0 : decide ((Int.tmod a0 a1) < 0) = false := decide_eq_false c5
        clear c5
        obtain rfl := Option.some.inj H
        go_enter Tryd.func38, Tryd.ntmps38
        go_wp2
        go_ret
        exact ⟨by first | rfl | (simp; done) | (simp [*]; done), by repeat (first | exact Drawn0.refl _ | apply Drawn0.step)⟩
def wishbookref00_Lot.f (a0_0 : Int) (a0_1 : Int) (a1 : Int) : Option (Int) := if a0_1 ≤ a0_0 then (some a0_0) else (if (wrap64 ((wrap64 (a0_1 - a0_0)) + 1)) < 1 then (some (mn (mx a1 a0_0) a0_1)) else ((wishbookref00_Spin.f a1 (wrap64 ((wrap64 (a0_1 - a0_0)) + 1))).bind fun t443 => (some (wrap64 (a0_0 + t443)))))
set_option maxHeartbeats 8000000 in
set_option maxRecDepth 100000 in
theorem wishbookref00_Lot.calls (a0_0 : Int) (a0_1 : Int) (a1 : Int) (r : Int) (w : World) (h : wishbookref00_Lot.f a0_0 a0_1 a1 = some r) :
    Calls Tryd.prog 66 #[.agg #[.int .i64 a0_0, .int .i64 a0_1], .int .i64 a1] w fun e w' => e = .returned (.int .i64 r) ∧ Below w.heap.size w w' := by
  have hu55 := Tryd.underlying55
  have HB := Aside0.mk (Below.refl w.heap.size w)
  have H : (if a0_1 ≤ a0_0 then (some a0_0) else (if (wrap64 ((wrap64 (a0_1 - a0_0)) + 1)) < 1 then (some (mn (mx a1 a0_0) a0_1)) else ((wishbookref00_Spin.f a1 (wrap64 ((wrap64 (a0_1 - a0_0)) + 1))).bind fun t443 => (some (wrap64 (a0_0 + t443)))))) = some r := h
  clear h
  by_cases c3 : a0_1 ≤ a0_0
  · rw [if_pos c3] at H
    have c3b0 : decide (a0_1 ≤ a0_0) = true := decide_eq_true c3
    clear c3
    obtain rfl := Option.some.inj H
    go_enter Tryd.func66, Tryd.ntmps66
    go_wp2_with (first | ((with_reducible refine gate_dst (N := 2) rfl ?_); refine box_event ?hg (N := 2) ?hd (cs := #[.int .i64 a0_0, .int .i64 a0_1]) (t := 55) ?hr ?_; (case hd => rfl); (case hg => rfl); (case hr => first | (go_simp; done) | (go_simp; rfl)); intro gb442 hg w4 hbox hb; have n0_ := Aside0.mk (below_step (by repeat (first | (with_reducible first | exact HB.out | apply below_alloc | apply pw_below_drewN | apply below_drew1) | exact HB.out)) hb); have n1_ := Aside0.mk (hbox); have n2_ := Aside0.mk ((by rw [hg]; exact (below_size (by repeat (first | (with_reducible first | exact HB.out | apply below_alloc | apply pw_below_drewN | apply below_drew1) | exact HB.out))) : w.heap.size ≤ gb442)); have n3_ := Aside0.mk ((by rw [hg]; exact (below_size (by repeat (first | (with_reducible first | exact HB.out | apply below_alloc | apply pw_below_drewN | apply below_drew1) | exact HB.out))) : w.heap.size ≤ gb442)); clear HB; have HB := n0_; have BK442 := n1_; have GW442 := n2_; have GE442 := n3_; clear n0_ n1_ n2_ n3_; clear hb hbox hg; have hcz5_0 : w4.cell? ⟨gb442, 0, none⟩ = some (.int .i64 a0_0) := (blk_cell BK442.out 0).trans rfl; have hcz5_1 : w4.cell? ⟨gb442, 1, none⟩ = some (.int .i64 a0_1) := (blk_cell BK442.out 1).trans rfl; have hfz5_0 := blk_frozen BK442.out 0; have hfz5_1 := blk_frozen BK442.out 1))
    repeat (go_quiet (first | ((with_reducible refine gate_dst (N := 2) rfl ?_); refine box_event ?hg (N := 2) ?hd (cs := #[.int .i64 a0_0, .int .i64 a0_1]) (t := 55) ?hr ?_; (case hd => rfl); (case hg => rfl); (case hr => first | (go_simp; done) | (go_simp; rfl)); intro gb442 hg w4 hbox hb; have n0_ := Aside0.mk (below_step (by repeat (first | (with_reducible first | exact HB.out | apply below_alloc | apply pw_below_drewN | apply below_drew1) | exact HB.out)) hb); have n1_ := Aside0.mk (hbox); have n2_ := Aside0.mk ((by rw [hg]; exact (below_size (by repeat (first | (with_reducible first | exact HB.out | apply below_alloc | apply pw_below_drewN | apply below_drew1) | exact HB.out))) : w.heap.size ≤ gb442)); have n3_ := Aside0.mk ((by rw [hg]; exact (below_size (by repeat (first | (with_reducible first | exact HB.out | apply below_alloc | apply pw_below_drewN | apply below_drew1) | exact HB.out))) : w.heap.size ≤ gb442)); clear HB; have HB := n0_; have BK442 := n1_; have GW442 := n2_; have GE442 := n3_; clear n0_ n1_ n2_ n3_; clear hb hbox hg; have hcz5_0 : w4.cell? ⟨gb442, 0, none⟩ = some (.int .i64 a0_0) := (blk_cell BK442.out 0).trans rfl; have hcz5_1 : w4.cell? ⟨gb442, 1, none⟩ = some (.int .i64 a0_1) := (blk_cell BK442.out 1).trans rfl; have hfz5_0 := blk_frozen BK442.out 0; have hfz5_1 := blk_frozen BK442.out 1)); try go_wp2_with (first | ((with_reducible refine gate_dst (N := 2) rfl ?_); refine box_event ?hg (N := 2) ?hd (cs := #[.int .i64 a0_0, .int .i64 a0_1]) (t := 55) ?hr ?_; (case hd => rfl); (case hg => rfl); (case hr => first | (go_simp; done) | (go_simp; rfl)); intro gb442 hg w4 hbox hb; have n0_ := Aside0.mk (below_step (by repeat (first | (with_reducible first | exact HB.out | apply below_alloc | apply pw_below_drewN | apply below_drew1) | exact HB.out)) hb); have n1_ := Aside0.mk (hbox); have n2_ := Aside0.mk ((by rw [hg]; exact (below_size (by repeat (first | (with_reducible first | exact HB.out | apply below_alloc | apply pw_below_drewN | apply below_drew1) | exact HB.out))) : w.heap.size ≤ gb442)); have n3_ := Aside0.mk ((by rw [hg]; exact (below_size (by repeat (first | (with_reducible first | exact HB.out | apply below_alloc | apply pw_below_drewN | apply below_drew1) | exact HB.out))) : w.heap.size ≤ gb442)); clear HB; have HB := n0_; have BK442 := n1_; have GW442 := n2_; have GE442 := n3_; clear n0_ n1_ n2_ n3_; clear hb hbox hg; have hcz5_0 : w4.cell? ⟨gb442, 0, none⟩ = some (.int .i64 a0_0) := (blk_cell BK442.out 0).trans rfl; have hcz5_1 : w4.cell? ⟨gb442, 1, none⟩ = some (.int .i64 a0_1) := (blk_cell BK442.out 1).trans rfl; have hfz5_0 := blk_frozen BK442.out 0; have hfz5_1 := blk_frozen BK442.out 1)))
    go_ret
    exact ⟨by first | rfl | (simp [errW_none, errW_some] <;> rfl) | (simp [*, errW_none, errW_some] <;> rfl), by repeat (first | (with_reducible first | exact HB.out | apply below_alloc | apply pw_below_drewN | apply below_drew1 | refine below_set ?_ GE442.out) | exact HB.out)⟩
  · rw [if_neg c3] at H
    have c3b0 : decide (a0_1 ≤ a0_0) = false := decide_eq_false c3
    clear c3
    by_cases c6 : (wrap64 ((wrap64 (a0_1 - a0_0)) + 1)) < 1
    · rw [if_pos c6] at H
      have c6b0 : decide ((wrap64 ((wrap64 (a0_1 - a0_0)) + 1)) < 1) = true := decide_eq_true c6
      clear c6
      obtain ⟨ji7, hji7⟩ : ∃ j_ : Int, (mx a1 a0_0) = j_ := ⟨_, rfl⟩
      replace H : (some (mn (ji7) a0_1)) = some r := by first | (rw [hji7] at H; exact H) | (simp only [hji7] at H ⊢; exact H)
      have hji7_ : (if a1 < a0_0 then a0_0 else a1) = ji7 := hji7
      obtain ⟨ji8, hji8⟩ : ∃ j_ : Int, (mn (ji7) a0_1) = j_ := ⟨_, rfl⟩
      replace H : (some ji8) = some r := by first | (rw [hji8] at H; exact H) | (simp only [hji8] at H ⊢; exact H)
      have hji8_ : (if a0_1 < (ji7) then a0_1 else (ji7)) = ji8 := hji8
      obtain rfl := Option.some.inj H
      go_enter Tryd.func66, Tryd.ntmps66
      go_wp2_with (first | ((with_reducible refine gate_dst (N := 2) rfl ?_); refine box_event ?hg (N := 2) ?hd (cs := #[.int .i64 a0_0, .int .i64 a0_1]) (t := 55) ?hr ?_; (case hd => rfl); (case hg => rfl); (case hr => first | (go_simp; done) | (go_simp; rfl)); intro gb442 hg w9 hbox hb; have n0_ := Aside0.mk (below_step (by repeat (first | (with_reducible first | exact HB.out | apply below_alloc | apply pw_below_drewN | apply below_drew1) | exact HB.out)) hb); have n1_ := Aside0.mk (hbox); have n2_ := Aside0.mk ((by rw [hg]; exact (below_size (by repeat (first | (with_reducible first | exact HB.out | apply below_alloc | apply pw_below_drewN | apply below_drew1) | exact HB.out))) : w.heap.size ≤ gb442)); have n3_ := Aside0.mk ((by rw [hg]; exact (below_size (by repeat (first | (with_reducible first | exact HB.out | apply below_alloc | apply pw_below_drewN | apply below_drew1) | exact HB.out))) : w.heap.size ≤ gb442)); clear HB; have HB := n0_; have BK442 := n1_; have GW442 := n2_; have GE442 := n3_; clear n0_ n1_ n2_ n3_; clear hb hbox hg; have hcz10_0 : w9.cell? ⟨gb442, 0, none⟩ = some (.int .i64 a0_0) := (blk_cell BK442.out 0).trans rfl; have hcz10_1 : w9.cell? ⟨gb442, 1, none⟩ = some (.int .i64 a0_1) := (blk_cell BK442.out 1).trans rfl; have hfz10_0 := blk_frozen BK442.out 0; have hfz10_1 := blk_frozen BK442.out 1))
      repeat (go_quiet (first | ((with_reducible refine gate_dst (N := 2) rfl ?_); refine box_event ?hg (N := 2) ?hd (cs := #[.int .i64 a0_0, .int .i64 a0_1]) (t := 55) ?hr ?_; (case hd => rfl); (case hg => rfl); (case hr => first | (go_simp; done) | (go_simp; rfl)); intro gb442 hg w9 hbox hb; have n0_ := Aside0.mk (below_step (by repeat (first | (with_reducible first | exact HB.out | apply below_alloc | apply pw_below_drewN | apply below_drew1) | exact HB.out)) hb); have n1_ := Aside0.mk (hbox); have n2_ := Aside0.mk ((by rw [hg]; exact (below_size (by repeat (first | (with_reducible first | exact HB.out | apply below_alloc | apply pw_below_drewN | apply below_drew1) | exact HB.out))) : w.heap.size ≤ gb442)); have n3_ := Aside0.mk ((by rw [hg]; exact (below_size (by repeat (first | (with_reducible first | exact HB.out | apply below_alloc | apply pw_below_drewN | apply below_drew1) | exact HB.out))) : w.heap.size ≤ gb442)); clear HB; have HB := n0_; have BK442 := n1_; have GW442 := n2_; have GE442 := n3_; clear n0_ n1_ n2_ n3_; clear hb hbox hg; have hcz10_0 : w9.cell? ⟨gb442, 0, none⟩ = some (.int .i64 a0_0) := (blk_cell BK442.out 0).trans rfl; have hcz10_1 : w9.cell? ⟨gb442, 1, none⟩ = some (.int .i64 a0_1) := (blk_cell BK442.out 1).trans rfl; have hfz10_0 := blk_frozen BK442.out 0; have hfz10_1 := blk_frozen BK442.out 1)); try go_wp2_with (first | ((with_reducible refine gate_dst (N := 2) rfl ?_); refine box_event ?hg (N := 2) ?hd (cs := #[.int .i64 a0_0, .int .i64 a0_1]) (t := 55) ?hr ?_; (case hd => rfl); (case hg => rfl); (case hr => first | (go_simp; done) | (go_simp; rfl)); intro gb442 hg w9 hbox hb; have n0_ := Aside0.mk (below_step (by repeat (first | (with_reducible first | exact HB.out | apply below_alloc | apply pw_below_drewN | apply below_drew1) | exact HB.out)) hb); have n1_ := Aside0.mk (hbox); have n2_ := Aside0.mk ((by rw [hg]; exact (below_size (by repeat (first | (with_reducible first | exact HB.out | apply below_alloc | apply pw_below_drewN | apply below_drew1) | exact HB.out))) : w.heap.size ≤ gb442)); have n3_ := Aside0.mk ((by rw [hg]; exact (below_size (by repeat (first | (with_reducible first | exact HB.out | apply below_alloc | apply pw_below_drewN | apply below_drew1) | exact HB.out))) : w.heap.size ≤ gb442)); clear HB; have HB := n0_; have BK442 := n1_; have GW442 := n2_; have GE442 := n3_; clear n0_ n1_ n2_ n3_; clear hb hbox hg; have hcz10_0 : w9.cell? ⟨gb442, 0, none⟩ = some (.int .i64 a0_0) := (blk_cell BK442.out 0).trans rfl; have hcz10_1 : w9.cell? ⟨gb442, 1, none⟩ = some (.int .i64 a0_1) := (blk_cell BK442.out 1).trans rfl; have hfz10_0 := blk_frozen BK442.out 0; have hfz10_1 := blk_frozen BK442.out 1)))
      go_ret
      exact ⟨by first | rfl | (simp [errW_none, errW_some] <;> rfl) | (simp only [← hji7, ← hji8]; first | rfl | (simp [errW_none, errW_some] <;> rfl)) | (simp [*, errW_none, errW_some] <;> rfl), by repeat (first | (with_reducible first | exact HB.out | apply below_alloc | apply pw_below_drewN | apply below_drew1 | refine below_set ?_ GE442.out) | exact HB.out)⟩
    · rw [if_neg c6] at H
      have c6b0 : decide ((wrap64 ((wrap64 (a0_1 - a0_0)) + 1)) < 1) = false := decide_eq_false c6
      clear c6
      replace H := Option.bind_eq_some_iff.mp H
      obtain ⟨t443, A110, H⟩ := H
      replace H : (some (wrap64 (a0_0 + t443))) = some r := H
      have A11 := Aside0.mk A110
      clear A110
      obtain rfl := Option.some.inj H
      go_enter Tryd.func66, Tryd.ntmps66
      go_wp2_with (first | ((with_reducible refine gate_dst (N := 2) rfl ?_); refine box_event ?hg (N := 2) ?hd (cs := #[.int .i64 a0_0, .int .i64 a0_1]) (t := 55) ?hr ?_; (case hd => rfl); (case hg => rfl); (case hr => first | (go_simp; done) | (go_simp; rfl)); intro gb442 hg w12 hbox hb; have n0_ := Aside0.mk (below_step (by repeat (first | (with_reducible first | exact HB.out | apply below_alloc | apply pw_below_drewN | apply below_drew1) | exact HB.out)) hb); have n1_ := Aside0.mk (hbox); have n2_ := Aside0.mk ((by rw [hg]; exact (below_size (by repeat (first | (with_reducible first | exact HB.out | apply below_alloc | apply pw_below_drewN | apply below_drew1) | exact HB.out))) : w.heap.size ≤ gb442)); have n3_ := Aside0.mk ((by rw [hg]; exact (below_size (by repeat (first | (with_reducible first | exact HB.out | apply below_alloc | apply pw_below_drewN | apply below_drew1) | exact HB.out))) : w.heap.size ≤ gb442)); clear HB; have HB := n0_; have BK442 := n1_; have GW442 := n2_; have GE442 := n3_; clear n0_ n1_ n2_ n3_; clear hb hbox hg; have hcz13_0 : w12.cell? ⟨gb442, 0, none⟩ = some (.int .i64 a0_0) := (blk_cell BK442.out 0).trans rfl; have hcz13_1 : w12.cell? ⟨gb442, 1, none⟩ = some (.int .i64 a0_1) := (blk_cell BK442.out 1).trans rfl; have hfz13_0 := blk_frozen BK442.out 0; have hfz13_1 := blk_frozen BK442.out 1) | (go_at_call 38; (with_reducible refine (wishbookref00_Spin.calls a1 (wrap64 ((wrap64 (a0_1 - a0_0)) + 1)) t443 _ A11.out).mono ?_); rintro e w' ⟨rfl, ⟨nd, rfl⟩⟩; (try first | exact ⟨rfl, _, World.drewN_drewN _ _ _⟩ | exact ⟨rfl, _, Eq.trans (World.drewN_drewN _ _ _) (congrArg (World.drewN _) (Nat.add_assoc _ _ _))⟩)))
      repeat (go_quiet (first | ((with_reducible refine gate_dst (N := 2) rfl ?_); refine box_event ?hg (N := 2) ?hd (cs := #[.int .i64 a0_0, .int .i64 a0_1]) (t := 55) ?hr ?_; (case hd => rfl); (case hg => rfl); (case hr => first | (go_simp; done) | (go_simp; rfl)); intro gb442 hg w12 hbox hb; have n0_ := Aside0.mk (below_step (by repeat (first | (with_reducible first | exact HB.out | apply below_alloc | apply pw_below_drewN | apply below_drew1) | exact HB.out)) hb); have n1_ := Aside0.mk (hbox); have n2_ := Aside0.mk ((by rw [hg]; exact (below_size (by repeat (first | (with_reducible first | exact HB.out | apply below_alloc | apply pw_below_drewN | apply below_drew1) | exact HB.out))) : w.heap.size ≤ gb442)); have n3_ := Aside0.mk ((by rw [hg]; exact (below_size (by repeat (first | (with_reducible first | exact HB.out | apply below_alloc | apply pw_below_drewN | apply below_drew1) | exact HB.out))) : w.heap.size ≤ gb442)); clear HB; have HB := n0_; have BK442 := n1_; have GW442 := n2_; have GE442 := n3_; clear n0_ n1_ n2_ n3_; clear hb hbox hg; have hcz13_0 : w12.cell? ⟨gb442, 0, none⟩ = some (.int .i64 a0_0) := (blk_cell BK442.out 0).trans rfl; have hcz13_1 : w12.cell? ⟨gb442, 1, none⟩ = some (.int .i64 a0_1) := (blk_cell BK442.out 1).trans rfl; have hfz13_0 := blk_frozen BK442.out 0; have hfz13_1 := blk_frozen BK442.out 1) | (go_at_call 38; (with_reducible refine (wishbookref00_Spin.calls a1 (wrap64 ((wrap64 (a0_1 - a0_0)) + 1)) t443 _ A11.out).mono ?_); rintro e w' ⟨rfl, ⟨nd, rfl⟩⟩; (try first | exact ⟨rfl, _, World.drewN_drewN _ _ _⟩ | exact ⟨rfl, _, Eq.trans (World.drewN_drewN _ _ _) (congrArg (World.drewN _) (Nat.add_assoc _ _ _))⟩))); try go_wp2_with (first | ((with_reducible refine gate_dst (N := 2) rfl ?_); refine box_event ?hg (N := 2) ?hd (cs := #[.int .i64 a0_0, .int .i64 a0_1]) (t := 55) ?hr ?_; (case hd => rfl); (case hg => rfl); (case hr => first | (go_simp; done) | (go_simp; rfl)); intro gb442 hg w12 hbox hb; have n0_ := Aside0.mk (below_step (by repeat (first | (with_reducible first | exact HB.out | apply below_alloc | apply pw_below_drewN | apply below_drew1) | exact HB.out)) hb); have n1_ := Aside0.mk (hbox); have n2_ := Aside0.mk ((by rw [hg]; exact (below_size (by repeat (first | (with_reducible first | exact HB.out | apply below_alloc | apply pw_below_drewN | apply below_drew1) | exact HB.out))) : w.heap.size ≤ gb442)); have n3_ := Aside0.mk ((by rw [hg]; exact (below_size (by repeat (first | (with_reducible first | exact HB.out | apply below_alloc | apply pw_below_drewN | apply below_drew1) | exact HB.out))) : w.heap.size ≤ gb442)); clear HB; have HB := n0_; have BK442 := n1_; have GW442 := n2_; have GE442 := n3_; clear n0_ n1_ n2_ n3_; clear hb hbox hg; have hcz13_0 : w12.cell? ⟨gb442, 0, none⟩ = some (.int .i64 a0_0) := (blk_cell BK442.out 0).trans rfl; have hcz13_1 : w12.cell? ⟨gb442, 1, none⟩ = some (.int .i64 a0_1) := (blk_cell BK442.out 1).trans rfl; have hfz13_0 := blk_frozen BK442.out 0; have hfz13_1 := blk_frozen BK442.out 1) | (go_at_call 38; (with_reducible refine (wishbookref00_Spin.calls a1 (wrap64 ((wrap64 (a0_1 - a0_0)) + 1)) t443 _ A11.out).mono ?_); rintro e w' ⟨rfl, ⟨nd, rfl⟩⟩; (try first | exact ⟨rfl, _, World.drewN_drewN _ _ _⟩ | exact ⟨rfl, _, Eq.trans (World.drewN_drewN _ _ _) (congrArg (World.drewN _) (Nat.add_assoc _ _ _))⟩))))
      go_ret
      exact ⟨by first | rfl | (simp [errW_none, errW_some] <;> rfl) | (simp [*, errW_none, errW_some] <;> rfl), by repeat (first | (with_reducible first | exact HB.out | apply below_alloc | apply pw_below_drewN | apply below_drew1 | refine below_set ?_ GE442.out) | exact HB.out)⟩
def wishbookref00_Take.f (l0 : List Int) (a1 : Int) : Option (Int) := if (l0.length : Int) = 0 then (some 0) else ((wishbookref00_Spin.f a1 (l0.length : Int)).bind fun t444 => (if 0 ≤ t444 then (if t444 < (l0.length : Int) then (some (rd l0 t444)) else (none)) else (none)))
set_option maxHeartbeats 8000000 in
set_option maxRecDepth 100000 in
theorem wishbookref00_Take.calls (A0 : Option Addr) (c0 : Nat) (l0 : List Int) (a1 : Int) (r : Int) (w : World) (hr0 : Kd.C (Kd.int .i64) w A0 l0.length l0) (hc0 : l0.length ≤ c0) (h : wishbookref00_Take.f l0 a1 = some r) :
    Calls Tryd.prog 67 #[.slice A0 l0.length c0, .int .i64 a1] w fun e w' => e = .returned (.int .i64 r) ∧ Drawn0 w w' := by
  have HR0 := Aside0.mk hr0
  have HC0 := Aside0.mk hc0
  clear hr0 hc0
  have H : (if (l0.length : Int) = 0 then (some 0) else ((wishbookref00_Spin.f a1 (l0.length : Int)).bind fun t444 => (if 0 ≤ t444 then (if t444 < (l0.length : Int) then (some (rd l0 t444)) else (none)) else (none)))) = some r := h
  clear h
  by_cases c3 : (l0.length : Int) = 0
  · rw [if_pos c3] at H
    have c3b0 : ((l0.length : Int) == 0) = true := beq_iff_eq.mpr c3
    have c3b1 : ((l0.length : Int) != 0) = false := bne_eq_false_iff_eq.mpr c3
    clear c3
    obtain rfl := Option.some.inj H
    go_enter Tryd.func67, Tryd.ntmps67
    go_wp2
    go_ret
    exact ⟨by first | rfl | (simp; done) | (simp [*]; done), by repeat (first | exact Drawn0.refl _ | apply Drawn0.step)⟩
  · rw [if_neg c3] at H
    have c3b0 : ((l0.length : Int) == 0) = false := beq_eq_false_iff_ne.mpr c3
    have c3b1 : ((l0.length : Int) != 0) = true := bne_iff_ne.mpr c3
    have c3b2 : ¬ (l0 = []) := fun h_ => c3 (by rw [h_]; rfl)
    replace H := Option.bind_eq_some_iff.mp H
    obtain ⟨t444, A40, H⟩ := H
    replace H : (if 0 ≤ t444 then (if t444 < (l0.length : Int) then (some (rd l0 t444)) else (none)) else (none)) = some r := H
    have A4 := Aside0.mk A40
    clear A40
    by_cases c5 : 0 ≤ t444
    · rw [if_pos c5] at H
      have c5b0 : decide (0 ≤ t444) = true := decide_eq_true c5
      clear c5
      by_cases c6 : t444 < (l0.length : Int)
      · rw [if_pos c6] at H
        have c6b0 : decide (t444 < (l0.length : Int)) = true := decide_eq_true c6
        clear c6
        obtain rfl := Option.some.inj H
        go_enter Tryd.func67, Tryd.ntmps67
        go_wp2_with (first | ((with_reducible refine gate_callee (f := 38) rfl ?_); refine goesL_ (some 12) rfl rfl Tryd.func38 (by kernel_rfl) rfl #[.int .i64 a1, .int .i64 (l0.length : Int)] rfl (by (try simp only [List.map_toArray, List.map_cons, List.map_nil]); first | done | rfl | (simp only [List.length_drop, List.length_take]; rfl)) ?_; (with_reducible refine (wishbookref00_Spin.calls a1 (l0.length : Int) t444 _ A4.out).mono ?_); rintro e w' ⟨rfl, ⟨nd, rfl⟩⟩; refine ⟨_, rfl, ?_⟩; have p445 : 0 ≤ (t444 : Int) := of_decide_eq_true (by first | (with_reducible assumption) | assumption); have q445 : t444 < (l0.length : Int) := of_decide_eq_true (by first | (with_reducible assumption) | assumption); obtain ⟨ad445, e445, hx445_0⟩ := Kd.at_int HR0.out t444 p445 q445; cases e445; replace p445 := eq_true p445; replace q445 := eq_true q445))
        go_ret
        exact ⟨by first | rfl | (simp; done) | (simp [*]; done), by repeat (first | exact Drawn0.refl _ | apply Drawn0.step)⟩
      · rw [if_neg c6] at H
        exact absurd H (by simp)
    · rw [if_neg c5] at H
      exact absurd H (by simp)
def wishbooklaw10_came.l0 : Nat → List Int → List (S59) → Int → List Int → List (S47) → List (S57) → Option ((List (S59)))
  | 0, _, _, _, _, _, _ => none
  | k + 1, x1, x5, x6, x447000, x447001, x447002 => if x6 < (x447002.length : Int) then (if 0 ≤ x6 then ((wishbookref00_Take.f x1 (wrap64 (2 * x6))).bind fun t449 => ((wishbookref00_Lot.f ((rd_T57 x447002 x6).f1.f0) ((rd_T57 x447002 x6).f1.f1) t449).bind fun t450 => ((wishbookref00_Take.f x1 (wrap64 ((wrap64 (2 * x6)) + 1))).bind fun t451 => ((wishbookref00_Lot.f ((rd_T57 x447002 x6).f2.f0) ((rd_T57 x447002 x6).f2.f1) t451).bind fun t452 => (if x5.length < 8796093022208 then (wishbooklaw10_came.l0 k x1 (x5 ++ [(⟨t450, t452⟩ : S59)]) (wrap64 (x6 + 1)) x447000 x447001 x447002) else (none)))))) else (none)) else (some x5)
def wishbooklaw10_came.f (k : Nat) (l0_0 : List Int) (l0_1 : List (S47)) (l0_2 : List (S57)) (l1 : List Int) : Option ((List (S59))) := wishbooklaw10_came.l0 k l1 ([] : List (S59)) 0 l0_0 l0_1 l0_2
theorem wishbooklaw10_came.mono_l : ∀ k, (∀ y0 y1 y2 y3 y4 y5, LeO (wishbooklaw10_came.l0 k y0 y1 y2 y3 y4 y5) (wishbooklaw10_came.l0 (k + 1) y0 y1 y2 y3 y4 y5))
  | 0 => fun _ _ _ _ _ _ r h => by simp [wishbooklaw10_came.l0] at h
  | k + 1 => by
    have ih0 := wishbooklaw10_came.mono_l k
    · intro y0 y1 y2 y3 y4 y5
      unfold wishbooklaw10_came.l0
      repeat' first
      | (with_reducible exact ih0 _ _ _ _ _ _)
      | (with_reducible exact LeO.refl _)
      | (with_reducible exact LeO.none _)
      | (with_reducible refine LeO.ite ?_ ?_)
      | (with_reducible refine LeO.bind ?_ (fun _ => ?_))
      | exact ih0 _ _ _ _ _ _
      | exact LeO.none _
      | refine LeO.ite ?_ ?_
      | refine LeO.bind ?_ (fun _ => ?_)
theorem wishbooklaw10_came.mono : ∀ a0 a1 a2 a3 k, LeO (wishbooklaw10_came.f k a0 a1 a2 a3) (wishbooklaw10_came.f (k + 1) a0 a1 a2 a3) := by
  intro a0 a1 a2 a3 k
  have ih0 := wishbooklaw10_came.mono_l k
  unfold wishbooklaw10_came.f
  repeat' first
      | (with_reducible exact ih0 _ _ _ _ _ _)
      | (with_reducible exact LeO.refl _)
      | (with_reducible exact LeO.none _)
      | (with_reducible refine LeO.ite ?_ ?_)
      | (with_reducible refine LeO.bind ?_ (fun _ => ?_))
      | exact ih0 _ _ _ _ _ _
      | exact LeO.none _
      | refine LeO.ite ?_ ?_
      | refine LeO.bind ?_ (fun _ => ?_)
def wishbooklaw10_came.T6 : Bool × List (List Nat × List Nat) := (true, [([], []), ([], []), ([1], [1]), ([], []), ([], []), ([4], [4]), ([3, 5], [3, 5]), ([2, 6, 6], [2, 6]), ([], []), ([8], [8]), ([], []), ([], []), ([11], [11]), ([12], [12]), ([10, 13, 7], [10, 13]), ([9, 14, 14], [9, 14]), ([7, 15], [7, 15]), ([16], [16]), ([0, 17, 15], [0, 17]), ([18, 18, 0, 1, 2, 3, 4, 5, 6, 7, 8, 9, 10, 11, 12, 13, 14, 15, 16, 17, 18], [0, 18])])
def wishbooklaw10_came.B6 : List Nat := [0, 0, 2, 0, 0, 16, 56, 126, 0, 256, 0, 0, 2048, 6144, 15614, 32766, 65534, 131070, 262143, 524287]
theorem wishbooklaw10_came.tab6 : rtab .any (opsOf Tryd.f33 6) = wishbooklaw10_came.T6 := by kernel_rfl
theorem wishbooklaw10_came.bits6 : waitsOk wishbooklaw10_came.T6.2 wishbooklaw10_came.B6 = true := by kernel_rfl
set_option maxHeartbeats 8000000 in
set_option maxRecDepth 100000 in
theorem wishbooklaw10_came.calls (k : Nat) (A0_0 : Option Addr) (c0_0 : Nat) (l0_0 : List Int) (A0_1 : Option Addr) (c0_1 : Nat) (l0_1 : List (S47)) (A0_2 : Option Addr) (c0_2 : Nat) (l0_2 : List (S57)) (A1 : Option Addr) (c1 : Nat) (l1 : List Int) (r : List (S59)) (w : World) (hr0_0 : Kd.C (Kd.int .i64) w A0_0 l0_0.length l0_0) (hc0_0 : l0_0.length ≤ c0_0) (hr0_1 : Kd.C k47 w A0_1 l0_1.length l0_1) (hc0_1 : l0_1.length ≤ c0_1) (hr0_2 : Kd.C k57 w A0_2 l0_2.length l0_2) (hc0_2 : l0_2.length ≤ c0_2) (hr1 : Kd.C (Kd.int .i64) w A1 l1.length l1) (hc1 : l1.length ≤ c1) (h : wishbooklaw10_came.f k l0_0 l0_1 l0_2 l1 = some r) :
    Calls Tryd.prog 33 #[.agg #[.slice A0_0 l0_0.length c0_0, .slice A0_1 l0_1.length c0_1, .slice A0_2 l0_2.length c0_2], .slice A1 l1.length c1] w fun e w' => ∃ v0_ : Value, e = .returned (v0_) ∧ Kd.R k59 59 w' w.heap.size (fun _ => True) v0_ r ∧ Below w.heap.size w w' := by
  have hu26 := Tryd.underlying26
  have hu57 := Tryd.underlying57
  have hu55 := Tryd.underlying55
  have hu59 := Tryd.underlying59
  have HR0_0 := Aside0.mk hr0_0
  have HC0_0 := Aside0.mk hc0_0
  clear hr0_0 hc0_0
  have HR0_1 := Aside0.mk hr0_1
  have HC0_1 := Aside0.mk hc0_1
  clear hr0_1 hc0_1
  have HR0_2 := Aside0.mk hr0_2
  have HC0_2 := Aside0.mk hc0_2
  clear hr0_2 hc0_2
  have HR1 := Aside0.mk hr1
  have HC1 := Aside0.mk hc1
  clear hr1 hc1
  have HB := Aside0.mk (Below.refl w.heap.size w)
  have H : (wishbooklaw10_came.l0 k l1 ([] : List (S59)) 0 l0_0 l0_1 l0_2) = some r := h
  clear h
  have H' := Aside0.mk H
  clear H
  go_enter Tryd.func33, Tryd.ntmps33
  go_wp2_with (first | ((with_reducible refine gate_dst (N := 2) rfl ?_); refine box_event ?hg (N := 2) ?hd (cs := #[.slice A0_0 l0_0.length c0_0, .slice A0_1 l0_1.length c0_1, .slice A0_2 l0_2.length c0_2]) (t := 26) ?hr ?_; (case hd => rfl); (case hg => rfl); (case hr => first | (go_simp; done) | (go_simp; rfl)); intro gb446 hg w3 hbox hb; have n0_ := Aside0.mk (below_step (by repeat (first | (with_reducible first | exact HB.out | apply below_alloc | apply pw_below_drewN | apply below_drew1) | exact HB.out)) hb); have n1_ := Aside0.mk (hbox); have n2_ := Aside0.mk ((by rw [hg]; exact (below_size (by repeat (first | (with_reducible first | exact HB.out | apply below_alloc | apply pw_below_drewN | apply below_drew1) | exact HB.out))) : w.heap.size ≤ gb446)); have n3_ := Aside0.mk ((by rw [hg]; exact (below_size (by repeat (first | (with_reducible first | exact HB.out | apply below_alloc | apply pw_below_drewN | apply below_drew1) | exact HB.out))) : w.heap.size ≤ gb446)); clear HB; have HB := n0_; have BK446 := n1_; have GW446 := n2_; have GE446 := n3_; clear n0_ n1_ n2_ n3_; clear hb hbox hg))
  go_loopg [5, 6] k (fun kq v5 v6 w' => ∃ (x5_1 : List (S59)) (x6_1 : Int), v6 = .int .i64 x6_1 ∧ Aside0 (wishbooklaw10_came.l0 kq l1 x5_1 x6_1 l0_0 l0_1 l0_2 = some r) ∧ Aside0 (kq ≤ k) ∧ Aside0 (Kd.R k59 59 w' w.heap.size (fun _ => True) v5 x5_1) ∧ Aside0 (w'.heap[gb446]? = some (.cells #[(.slice A0_0 l0_0.length c0_0), (.slice A0_1 l0_1.length c0_1), (.slice A0_2 l0_2.length c0_2)] 26 (0, 0))) ∧ Aside0 (Below w.heap.size w w'))
  case atStart => exact ⟨(([] : List (S59))), (0), (by first | rfl | (simp; done) | (simp [*]; done)), H', ⟨Nat.le_refl _⟩, ⟨by first | exact Kd.R_nil _ _ _ _ _ | exact Kd.N_nil _ _ _ _ _ | exact Kd.V_nil _ _ _ _ _ | exact Kd.Q_nil _ _ _ _ _ | exact Kd.S_nil _ _ _ _ _⟩, ⟨by (with_reducible repeat (first | refine blk_drewN ?_ _ | refine blk_drew ?_ | refine blk_alloc ?_ _)); exact BK446.out⟩, ⟨by repeat (first | (with_reducible first | exact HB.out | apply below_alloc | apply pw_below_drewN | apply below_drew1 | refine below_set ?_ GE446.out) | exact HB.out)⟩⟩
  case round =>
    clear H'
    try clear c1
    try clear p2
    try clear c3
    obtain ⟨x5_1, x6_1, rfl, HA, HK1, HO_5, BK446, HB⟩ := hrel
    cases gk with
    | zero => exact absurd HA.out (by simp [wishbooklaw10_came.l0])
    | succ k1 =>
      have H := HA.out
      clear HA
      simp only [wishbooklaw10_came.l0] at H
      by_cases c4 : x6_1 < (l0_2.length : Int)
      · rw [if_pos c4] at H
        have c4b0 : decide (x6_1 < (l0_2.length : Int)) = true := decide_eq_true c4
        clear c4
        by_cases c5 : 0 ≤ x6_1
        · rw [if_pos c5] at H
          have c5b0 : decide (0 ≤ x6_1) = true := decide_eq_true c5
          clear c5
          replace H := Option.bind_eq_some_iff.mp H
          obtain ⟨t449, A60, H⟩ := H
          replace H : ((wishbookref00_Lot.f ((rd_T57 l0_2 x6_1).f1.f0) ((rd_T57 l0_2 x6_1).f1.f1) t449).bind fun t450 => ((wishbookref00_Take.f l1 (wrap64 ((wrap64 (2 * x6_1)) + 1))).bind fun t451 => ((wishbookref00_Lot.f ((rd_T57 l0_2 x6_1).f2.f0) ((rd_T57 l0_2 x6_1).f2.f1) t451).bind fun t452 => (if x5_1.length < 8796093022208 then (wishbooklaw10_came.l0 k1 l1 (x5_1 ++ [(⟨t450, t452⟩ : S59)]) (wrap64 (x6_1 + 1)) l0_0 l0_1 l0_2) else (none))))) = some r := H
          have A6 := Aside0.mk A60
          clear A60
          replace H := Option.bind_eq_some_iff.mp H
          obtain ⟨t450, A70, H⟩ := H
          replace H : ((wishbookref00_Take.f l1 (wrap64 ((wrap64 (2 * x6_1)) + 1))).bind fun t451 => ((wishbookref00_Lot.f ((rd_T57 l0_2 x6_1).f2.f0) ((rd_T57 l0_2 x6_1).f2.f1) t451).bind fun t452 => (if x5_1.length < 8796093022208 then (wishbooklaw10_came.l0 k1 l1 (x5_1 ++ [(⟨t450, t452⟩ : S59)]) (wrap64 (x6_1 + 1)) l0_0 l0_1 l0_2) else (none)))) = some r := H
          have A7 := Aside0.mk A70
          clear A70
          replace H := Option.bind_eq_some_iff.mp H
          obtain ⟨t451, A80, H⟩ := H
          replace H : ((wishbookref00_Lot.f ((rd_T57 l0_2 x6_1).f2.f0) ((rd_T57 l0_2 x6_1).f2.f1) t451).bind fun t452 => (if x5_1.length < 8796093022208 then (wishbooklaw10_came.l0 k1 l1 (x5_1 ++ [(⟨t450, t452⟩ : S59)]) (wrap64 (x6_1 + 1)) l0_0 l0_1 l0_2) else (none))) = some r := H
          have A8 := Aside0.mk A80
          clear A80
          replace H := Option.bind_eq_some_iff.mp H
          obtain ⟨t452, A90, H⟩ := H
          replace H : (if x5_1.length < 8796093022208 then (wishbooklaw10_came.l0 k1 l1 (x5_1 ++ [(⟨t450, t452⟩ : S59)]) (wrap64 (x6_1 + 1)) l0_0 l0_1 l0_2) else (none)) = some r := H
          have A9 := Aside0.mk A90
          clear A90
          by_cases c10 : x5_1.length < 8796093022208
          · rw [if_pos c10] at H
            have LMc10 := Aside0.mk c10
            clear c10
            obtain ⟨y453, hy453⟩ : ∃ y_ : List (S59), y_ = (x5_1 ++ [(⟨t450, t452⟩ : S59)]) := ⟨_, rfl⟩
            replace H : (wishbooklaw10_came.l0 k1 l1 y453 (wrap64 (x6_1 + 1)) l0_0 l0_1 l0_2) = some r := by first | (rw [hy453]; with_reducible exact H) | (have H2_ := (Option.bind_some _ _).symm.trans H; rw [hy453]; with_reducible exact H2_) | (have H2_ := (Option.bind_some _ _).symm.trans H; with_reducible exact H2_) | with_reducible exact H | (rw [hy453]; exact H) | exact H
            have Ny453 := Aside0.mk hy453
            clear hy453
            have H' := Aside0.mk H
            clear H
            have hcz11_0 : wr.cell? ⟨gb446, 0, none⟩ = some (.slice A0_0 l0_0.length c0_0) := (blk_cell BK446.out 0).trans rfl
            have hcz11_1 : wr.cell? ⟨gb446, 1, none⟩ = some (.slice A0_1 l0_1.length c0_1) := (blk_cell BK446.out 1).trans rfl
            have hcz11_2 : wr.cell? ⟨gb446, 2, none⟩ = some (.slice A0_2 l0_2.length c0_2) := (blk_cell BK446.out 2).trans rfl
            have hfz11_0 := blk_frozen BK446.out 0
            have hfz11_1 := blk_frozen BK446.out 1
            have hfz11_2 := blk_frozen BK446.out 2
            have p447 : 0 ≤ (x6_1 : Int) := of_decide_eq_true (by first | (with_reducible assumption) | assumption)
            have q447 : x6_1 < (l0_2.length : Int) := of_decide_eq_true (by first | (with_reducible assumption) | assumption)
            obtain ⟨ad447, e447, hx447_0, hx447_1, hx447_2, hx447_3, hx447_4⟩ := at_T57 HR0_2.out x6_1 p447 q447
            cases e447
            replace hx447_0 := (HB.out.cell (World.block_lt_of_cell? w _ hx447_0)).trans hx447_0
            replace hx447_1 := (HB.out.cell (World.block_lt_of_cell? w _ hx447_1)).trans hx447_1
            replace hx447_2 := (HB.out.cell (World.block_lt_of_cell? w _ hx447_2)).trans hx447_2
            replace hx447_3 := (HB.out.cell (World.block_lt_of_cell? w _ hx447_3)).trans hx447_3
            replace hx447_4 := (HB.out.cell (World.block_lt_of_cell? w _ hx447_4)).trans hx447_4
            replace p447 := eq_true p447
            replace q447 := eq_true q447
            try go_wp2_with (first | ((with_reducible refine gate_dst (N := 7) rfl ?_); refine box_event ?hg (N := 7) ?hd (cs := #[.int .i64 0, .int .i64 0, .int .i64 0, .int .i64 0, .int .i64 0]) (t := 57) ?hr ?_; (case hd => rfl); (case hg => rfl); (case hr => first | (go_simp; done) | (go_simp; rfl)); intro gb448 hg w12 hbox hb; have n0_ := Aside0.mk (Kd.R_below (by (with_reducible repeat (first | apply Kd.R_alloc | apply Kd.R_drewN | apply Kd.R_drew)); exact HO_5.out) hb); have n1_ := Aside0.mk (blk_below (g := gb446) (o := .cells #[.slice A0_0 l0_0.length c0_0, .slice A0_1 l0_1.length c0_1, .slice (some ad447) l0_2.length c0_2] 26 (0, 0)) (by (with_reducible repeat (first | refine blk_drewN ?_ _ | refine blk_drew ?_ | refine blk_alloc ?_ _)); exact BK446.out) hb); have n2_ := Aside0.mk (below_step (by repeat (first | (with_reducible first | exact HB.out | apply below_alloc | apply pw_below_drewN | apply below_drew1 | refine below_set ?_ GE446.out) | exact HB.out)) hb); have n3_ := Aside0.mk (hbox); have n4_ := Aside0.mk ((by rw [hg]; exact (below_size (by repeat (first | (with_reducible first | exact HB.out | apply below_alloc | apply pw_below_drewN | apply below_drew1 | refine below_set ?_ GE446.out) | exact HB.out))) : w.heap.size ≤ gb448)); have n5_ := Aside0.mk ((by rw [hg]; exact (below_size (by repeat (first | (with_reducible first | exact HB.out | apply below_alloc | apply pw_below_drewN | apply below_drew1 | refine below_set ?_ GE446.out) | exact HB.out))) : w.heap.size ≤ gb448)); have n6_ := Aside0.mk ((by rw [hg]; exact Nat.ne_of_lt (blk_lt (g := gb446) (o := .cells #[.slice A0_0 l0_0.length c0_0, .slice A0_1 l0_1.length c0_1, .slice (some ad447) l0_2.length c0_2] 26 (0, 0)) (by (with_reducible repeat (first | refine blk_drewN ?_ _ | refine blk_drew ?_ | refine blk_alloc ?_ _)); exact BK446.out)) : gb446 ≠ gb448)); have n7_ := Aside0.mk ((by rw [hg]; exact Nat.ne_of_gt (blk_lt (g := gb446) (o := .cells #[.slice A0_0 l0_0.length c0_0, .slice A0_1 l0_1.length c0_1, .slice (some ad447) l0_2.length c0_2] 26 (0, 0)) (by (with_reducible repeat (first | refine blk_drewN ?_ _ | refine blk_drew ?_ | refine blk_alloc ?_ _)); exact BK446.out)) : gb448 ≠ gb446)); clear HO_5; clear BK446; clear HB; have HO_5 := n0_; have BK446 := n1_; have HB := n2_; have BK448 := n3_; have GW448 := n4_; have GE448 := n5_; have NB446_448 := n6_; have NB448_446 := n7_; clear n0_ n1_ n2_ n3_ n4_ n5_ n6_ n7_; clear hb hbox hg; have hnb13 := NB448_446.out; have hnc13 := NB446_448.out; have hcz14_0 : w12.cell? ⟨gb448, 0, none⟩ = some (.int .i64 0) := (blk_cell BK448.out 0).trans rfl; have hcz14_1 : w12.cell? ⟨gb448, 1, none⟩ = some (.int .i64 0) := (blk_cell BK448.out 1).trans rfl; have hcz14_2 : w12.cell? ⟨gb448, 2, none⟩ = some (.int .i64 0) := (blk_cell BK448.out 2).trans rfl; have hcz14_3 : w12.cell? ⟨gb448, 3, none⟩ = some (.int .i64 0) := (blk_cell BK448.out 3).trans rfl; have hcz14_4 : w12.cell? ⟨gb448, 4, none⟩ = some (.int .i64 0) := (blk_cell BK448.out 4).trans rfl; have hfz14_0 := blk_frozen BK448.out 0; have hfz14_1 := blk_frozen BK448.out 1; have hfz14_2 := blk_frozen BK448.out 2; have hfz14_3 := blk_frozen BK448.out 3; have hfz14_4 := blk_frozen BK448.out 4))
            have n0_ : Aside0 (Kd.R k59 59 (((((w12.setCell ⟨gb448, 0, none⟩ (.int .i64 ((rd_T57 l0_2 x6_1).f0))).setCell ⟨gb448, 1, none⟩ (.int .i64 ((rd_T57 l0_2 x6_1).f1.f0))).setCell ⟨gb448, 2, none⟩ (.int .i64 ((rd_T57 l0_2 x6_1).f1.f1))).setCell ⟨gb448, 3, none⟩ (.int .i64 ((rd_T57 l0_2 x6_1).f2.f0))).setCell ⟨gb448, 4, none⟩ (.int .i64 ((rd_T57 l0_2 x6_1).f2.f1))) w.heap.size (fun _ => True) u5 x5_1) := ⟨by (with_reducible repeat (first | apply Kd.R_alloc | apply Kd.R_drewN | apply Kd.R_drew)); exact Kd.R_mono (Kd.R_far (p := ⟨gb448, 4, none⟩) (Kd.R_far (p := ⟨gb448, 3, none⟩) (Kd.R_far (p := ⟨gb448, 2, none⟩) (Kd.R_far (p := ⟨gb448, 1, none⟩) (Kd.R_far (p := ⟨gb448, 0, none⟩) (Kd.R_types HO_5.out BK448.out (by decide)) (fun _ hk => hk.2) (.int .i64 ((rd_T57 l0_2 x6_1).f0))) (fun _ hk => hk.2) (.int .i64 ((rd_T57 l0_2 x6_1).f1.f0))) (fun _ hk => hk.2) (.int .i64 ((rd_T57 l0_2 x6_1).f1.f1))) (fun _ hk => hk.2) (.int .i64 ((rd_T57 l0_2 x6_1).f2.f0))) (fun _ hk => hk.2) (.int .i64 ((rd_T57 l0_2 x6_1).f2.f1))) (fun _ hk => trivial)⟩
            have n1_ : Aside0 ((((((w12.setCell ⟨gb448, 0, none⟩ (.int .i64 ((rd_T57 l0_2 x6_1).f0))).setCell ⟨gb448, 1, none⟩ (.int .i64 ((rd_T57 l0_2 x6_1).f1.f0))).setCell ⟨gb448, 2, none⟩ (.int .i64 ((rd_T57 l0_2 x6_1).f1.f1))).setCell ⟨gb448, 3, none⟩ (.int .i64 ((rd_T57 l0_2 x6_1).f2.f0))).setCell ⟨gb448, 4, none⟩ (.int .i64 ((rd_T57 l0_2 x6_1).f2.f1))).heap[gb446]? = some (.cells #[.slice A0_0 l0_0.length c0_0, .slice A0_1 l0_1.length c0_1, .slice (some ad447) l0_2.length c0_2] 26 (0, 0))) := ⟨by (with_reducible repeat (first | refine blk_drewN ?_ _ | refine blk_drew ?_ | refine blk_alloc ?_ _)); refine blk_far ?_ NB446_448.out _; (with_reducible repeat (first | refine blk_drewN ?_ _ | refine blk_drew ?_ | refine blk_alloc ?_ _)); refine blk_far ?_ NB446_448.out _; (with_reducible repeat (first | refine blk_drewN ?_ _ | refine blk_drew ?_ | refine blk_alloc ?_ _)); refine blk_far ?_ NB446_448.out _; (with_reducible repeat (first | refine blk_drewN ?_ _ | refine blk_drew ?_ | refine blk_alloc ?_ _)); refine blk_far ?_ NB446_448.out _; (with_reducible repeat (first | refine blk_drewN ?_ _ | refine blk_drew ?_ | refine blk_alloc ?_ _)); refine blk_far ?_ NB446_448.out _; (with_reducible repeat (first | refine blk_drewN ?_ _ | refine blk_drew ?_ | refine blk_alloc ?_ _)); exact BK446.out⟩
            have n2_ : Aside0 ((((((w12.setCell ⟨gb448, 0, none⟩ (.int .i64 ((rd_T57 l0_2 x6_1).f0))).setCell ⟨gb448, 1, none⟩ (.int .i64 ((rd_T57 l0_2 x6_1).f1.f0))).setCell ⟨gb448, 2, none⟩ (.int .i64 ((rd_T57 l0_2 x6_1).f1.f1))).setCell ⟨gb448, 3, none⟩ (.int .i64 ((rd_T57 l0_2 x6_1).f2.f0))).setCell ⟨gb448, 4, none⟩ (.int .i64 ((rd_T57 l0_2 x6_1).f2.f1))).heap[gb448]? = some (.cells #[.int .i64 ((rd_T57 l0_2 x6_1).f0), .int .i64 ((rd_T57 l0_2 x6_1).f1.f0), .int .i64 ((rd_T57 l0_2 x6_1).f1.f1), .int .i64 ((rd_T57 l0_2 x6_1).f2.f0), .int .i64 ((rd_T57 l0_2 x6_1).f2.f1)] 57 (0, 0))) := ⟨by (with_reducible repeat (first | refine blk_drewN ?_ _ | refine blk_drew ?_ | refine blk_alloc ?_ _)); refine blk_put (cs := #[.int .i64 ((rd_T57 l0_2 x6_1).f0), .int .i64 ((rd_T57 l0_2 x6_1).f1.f0), .int .i64 ((rd_T57 l0_2 x6_1).f1.f1), .int .i64 ((rd_T57 l0_2 x6_1).f2.f0), .int .i64 0]) ?_ 4 _ rfl; (with_reducible repeat (first | refine blk_drewN ?_ _ | refine blk_drew ?_ | refine blk_alloc ?_ _)); refine blk_put (cs := #[.int .i64 ((rd_T57 l0_2 x6_1).f0), .int .i64 ((rd_T57 l0_2 x6_1).f1.f0), .int .i64 ((rd_T57 l0_2 x6_1).f1.f1), .int .i64 0, .int .i64 0]) ?_ 3 _ rfl; (with_reducible repeat (first | refine blk_drewN ?_ _ | refine blk_drew ?_ | refine blk_alloc ?_ _)); refine blk_put (cs := #[.int .i64 ((rd_T57 l0_2 x6_1).f0), .int .i64 ((rd_T57 l0_2 x6_1).f1.f0), .int .i64 0, .int .i64 0, .int .i64 0]) ?_ 2 _ rfl; (with_reducible repeat (first | refine blk_drewN ?_ _ | refine blk_drew ?_ | refine blk_alloc ?_ _)); refine blk_put (cs := #[.int .i64 ((rd_T57 l0_2 x6_1).f0), .int .i64 0, .int .i64 0, .int .i64 0, .int .i64 0]) ?_ 1 _ rfl; (with_reducible repeat (first | refine blk_drewN ?_ _ | refine blk_drew ?_ | refine blk_alloc ?_ _)); refine blk_put (cs := #[.int .i64 0, .int .i64 0, .int .i64 0, .int .i64 0, .int .i64 0]) ?_ 0 _ rfl; (with_reducible repeat (first | refine blk_drewN ?_ _ | refine blk_drew ?_ | refine blk_alloc ?_ _)); exact BK448.out⟩
            have n3_ : Aside0 (Below w.heap.size w (((((w12.setCell ⟨gb448, 0, none⟩ (.int .i64 ((rd_T57 l0_2 x6_1).f0))).setCell ⟨gb448, 1, none⟩ (.int .i64 ((rd_T57 l0_2 x6_1).f1.f0))).setCell ⟨gb448, 2, none⟩ (.int .i64 ((rd_T57 l0_2 x6_1).f1.f1))).setCell ⟨gb448, 3, none⟩ (.int .i64 ((rd_T57 l0_2 x6_1).f2.f0))).setCell ⟨gb448, 4, none⟩ (.int .i64 ((rd_T57 l0_2 x6_1).f2.f1)))) := ⟨by repeat (first | (with_reducible first | exact HB.out | apply below_alloc | apply pw_below_drewN | apply below_drew1 | refine below_set ?_ GE446.out | refine below_set ?_ GE448.out) | exact HB.out)⟩
            (try clear HO_5)
            (try clear BK446)
            (try clear BK448)
            (try clear HB)
            generalize (((((w12.setCell ⟨gb448, 0, none⟩ (.int .i64 ((rd_T57 l0_2 x6_1).f0))).setCell ⟨gb448, 1, none⟩ (.int .i64 ((rd_T57 l0_2 x6_1).f1.f0))).setCell ⟨gb448, 2, none⟩ (.int .i64 ((rd_T57 l0_2 x6_1).f1.f1))).setCell ⟨gb448, 3, none⟩ (.int .i64 ((rd_T57 l0_2 x6_1).f2.f0))).setCell ⟨gb448, 4, none⟩ (.int .i64 ((rd_T57 l0_2 x6_1).f2.f1))) = w15 at n0_ n1_ n2_ n3_ ⊢
            have HO_5 := n0_
            have BK446 := n1_
            have BK448 := n2_
            have HB := n3_
            clear n0_ n1_ n2_ n3_
            have n0_ := Aside0.mk (Kd.R_drew HO_5.out)
            have n1_ := Aside0.mk (blk_drew BK446.out)
            have n2_ := Aside0.mk (blk_drew BK448.out)
            have n3_ := Aside0.mk (below_drew1 HB.out)
            clear HO_5
            clear BK446
            clear BK448
            clear HB
            have HO_5 := n0_
            have BK446 := n1_
            have BK448 := n2_
            have HB := n3_
            clear n0_ n1_ n2_ n3_
            refine start_ (n := 20) (S := fun w' => w'.cell? ⟨gb448, 0, none⟩ = some (.int .i64 ((rd_T57 l0_2 x6_1).f0)) ∧ w'.cell? ⟨gb448, 1, none⟩ = some (.int .i64 ((rd_T57 l0_2 x6_1).f1.f0)) ∧ w'.cell? ⟨gb448, 2, none⟩ = some (.int .i64 ((rd_T57 l0_2 x6_1).f1.f1)) ∧ w'.cell? ⟨gb448, 3, none⟩ = some (.int .i64 ((rd_T57 l0_2 x6_1).f2.f0)) ∧ w'.cell? ⟨gb448, 4, none⟩ = some (.int .i64 ((rd_T57 l0_2 x6_1).f2.f1))) (ds := []) #[false, false, false, false, false, false, false, false, false, false, false, false, false, false, false, false, false, false, false, false] (by kernel_rfl) rfl rfl ⟨(blk_cell BK448.out 0).trans rfl, (blk_cell BK448.out 1).trans rfl, (blk_cell BK448.out 2).trans rfl, (blk_cell BK448.out 3).trans rfl, (blk_cell BK448.out 4).trans rfl⟩ (fun hHeld => ?_); refine with_tabW wishbooklaw10_came.tab6 wishbooklaw10_came.bits6 (fun HT_ HW_ => ?_)
            generalize w15.drew = w16 at HO_5 BK446 BK448 HB hHeld ⊢
            refine pure_ (i := 0) (N := some 20) (v := ?_) (a' := ?_) #[true, false, false, false, false, false, false, false, false, false, false, false, false, false, false, false, false, false, false, false] rfl rfl (any_of HT_.out (by kernel_rfl)) (fun _ _ _ h => h) (Or.inl ⟨by rfl, ?_⟩) ?_ ?_
            rotate_left
            · intro w'
              go_simp
              with_reducible rfl
            rotate_left
            · simp only [Act.put, List.setIfInBounds_toArray, List.set_cons_zero, List.set_cons_succ, i64_w, i32_w]
              rfl
            refine pure_ (i := 1) (N := some 21) (v := ?_) (a' := ?_) #[true, true, false, false, false, false, false, false, false, false, false, false, false, false, false, false, false, false, false, false] rfl rfl (any_of HT_.out (by kernel_rfl)) (fun _ _ _ h => h) (Or.inl ⟨by rfl, ?_⟩) ?_ ?_
            rotate_left
            · intro w'
              go_simp
              with_reducible rfl
            rotate_left
            · simp only [Act.put, List.setIfInBounds_toArray, List.set_cons_zero, List.set_cons_succ, i64_w, i32_w]
              rfl
            refine pure_ (i := 3) (N := some 23) (v := ?_) (a' := ?_) #[true, true, false, true, false, false, false, false, false, false, false, false, false, false, false, false, false, false, false, false] rfl rfl (any_of HT_.out (by kernel_rfl)) (fun _ _ _ h => h) (Or.inl ⟨by rfl, ?_⟩) ?_ ?_
            rotate_left
            · intro w'
              go_simp
              with_reducible rfl
            rotate_left
            · simp only [Act.put, List.setIfInBounds_toArray, List.set_cons_zero, List.set_cons_succ, i64_w, i32_w]
              rfl
            refine pure_ (i := 4) (N := some 24) (v := ?_) (a' := ?_) #[true, true, false, true, true, false, false, false, false, false, false, false, false, false, false, false, false, false, false, false] rfl rfl (any_of HT_.out (by kernel_rfl)) (fun _ _ _ h => h) (Or.inl ⟨by rfl, ?_⟩) ?_ ?_
            rotate_left
            · intro w'
              go_simp
              with_reducible rfl
            rotate_left
            · simp only [Act.put, List.setIfInBounds_toArray, List.set_cons_zero, List.set_cons_succ, i64_w, i32_w]
              rfl
            refine pure_ (i := 5) (N := some 25) (v := ?_) (a' := ?_) #[true, true, false, true, true, true, false, false, false, false, false, false, false, false, false, false, false, false, false, false] rfl rfl (any_of HT_.out (by kernel_rfl)) (fun _ _ _ h => h) (Or.inl ⟨by rfl, ?_⟩) ?_ ?_
            rotate_left
            · intro w'
              go_simp
              with_reducible rfl
            rotate_left
            · simp only [Act.put, List.setIfInBounds_toArray, List.set_cons_zero, List.set_cons_succ, i64_w, i32_w]
              rfl
            refine pure_ (i := 8) (N := some 28) (v := ?_) (a' := ?_) #[true, true, false, true, true, true, false, false, true, false, false, false, false, false, false, false, false, false, false, false] rfl rfl (any_of HT_.out (by kernel_rfl)) (fun _ _ _ h => h) (Or.inl ⟨by rfl, ?_⟩) ?_ ?_
            rotate_left
            · intro w'
              go_simp
              with_reducible rfl
            rotate_left
            · simp only [Act.put, List.setIfInBounds_toArray, List.set_cons_zero, List.set_cons_succ, i64_w, i32_w]
              rfl
            refine pure_ (i := 10) (N := some 30) (v := ?_) (a' := ?_) #[true, true, false, true, true, true, false, false, true, false, true, false, false, false, false, false, false, false, false, false] rfl rfl (any_of HT_.out (by kernel_rfl)) (fun _ _ _ h => h) (Or.inl ⟨by rfl, ?_⟩) ?_ ?_
            rotate_left
            · intro w'
              go_simp
              with_reducible rfl
            rotate_left
            · simp only [Act.put, List.setIfInBounds_toArray, List.set_cons_zero, List.set_cons_succ, i64_w, i32_w]
              rfl
            refine pure_ (i := 11) (N := some 31) (v := ?_) (a' := ?_) #[true, true, false, true, true, true, false, false, true, false, true, true, false, false, false, false, false, false, false, false] rfl rfl (any_of HT_.out (by kernel_rfl)) (fun _ _ _ h => h) (Or.inl ⟨by rfl, ?_⟩) ?_ ?_
            rotate_left
            · intro w'
              go_simp
              with_reducible rfl
            rotate_left
            · simp only [Act.put, List.setIfInBounds_toArray, List.set_cons_zero, List.set_cons_succ, i64_w, i32_w]
              rfl
            refine pure_ (i := 12) (N := some 32) (v := ?_) (a' := ?_) #[true, true, false, true, true, true, false, false, true, false, true, true, true, false, false, false, false, false, false, false] rfl rfl (any_of HT_.out (by kernel_rfl)) (fun _ _ _ h => h) (Or.inl ⟨by rfl, ?_⟩) ?_ ?_
            rotate_left
            · intro w'
              go_simp
              with_reducible rfl
            rotate_left
            · simp only [Act.put, List.setIfInBounds_toArray, List.set_cons_zero, List.set_cons_succ, i64_w, i32_w]
              rfl
            refine pure_ (i := 13) (N := some 33) (v := ?_) (a' := ?_) #[true, true, false, true, true, true, false, false, true, false, true, true, true, true, false, false, false, false, false, false] rfl rfl (any_of HT_.out (by kernel_rfl)) (fun _ _ _ h => h) (Or.inl ⟨by rfl, ?_⟩) ?_ ?_
            rotate_left
            · intro w'
              go_simp
              with_reducible rfl
            rotate_left
            · simp only [Act.put, List.setIfInBounds_toArray, List.set_cons_zero, List.set_cons_succ, i64_w, i32_w]
              rfl
            refine take_ (i := 2) (N := some 22) (v := ?_) (a' := ?_) #[true, true, true, true, true, true, false, false, true, false, true, true, true, true, false, false, false, false, false, false] rfl rfl (take_ofW HT_.out HW_.out (by kernel_rfl)) (fun _ _ _ h => h) (Or.inl ⟨by rfl, ?_⟩) hHeld ?_ ?_
            rotate_left
            · rintro w' ⟨s0, s1, s2, s3, s4⟩
              go_simp
              with_reducible rfl
            rotate_left
            · simp only [Act.put, List.setIfInBounds_toArray, List.set_cons_zero, List.set_cons_succ, i64_w, i32_w]
              rfl
            refine take_ (i := 9) (N := some 29) (v := ?_) (a' := ?_) #[true, true, true, true, true, true, false, false, true, true, true, true, true, true, false, false, false, false, false, false] rfl rfl (take_ofW HT_.out HW_.out (by kernel_rfl)) (fun _ _ _ h => h) (Or.inl ⟨by rfl, ?_⟩) hHeld ?_ ?_
            rotate_left
            · rintro w' ⟨s0, s1, s2, s3, s4⟩
              go_simp
              with_reducible rfl
            rotate_left
            · simp only [Act.put, List.setIfInBounds_toArray, List.set_cons_zero, List.set_cons_succ, i64_w, i32_w]
              rfl
            refine one_ (i := 6) (N := some 26) #[true, true, true, true, true, true, true, false, true, true, true, true, true, true, false, false, false, false, false, false] rfl rfl (one_of HT_.out (by kernel_rfl)) (by decide) (fun K hK => ?_)
            refine goes_ Tryd.func67 (by kernel_rfl) rfl #[.slice A1 l1.length c1, .int .i64 (wrap64 (2 * x6_1))] (by rfl) rfl rfl (by (try simp only [List.map_toArray, List.map_cons, List.map_nil]); first | done | rfl | (simp only [List.length_drop, List.length_take]; rfl)) ?_
            with_reducible refine (wishbookref00_Take.calls _ _ l1 (wrap64 (2 * x6_1)) t449 _ ?side1 ?side2 A6.out).mono ?_
            (case side1 => repeat (first | exact (Kd.C_below HR1.out HB.out) | (with_reducible refine Kd.C_alloc ?_ _) | (with_reducible refine Kd.C_drewN ?_ _) | (with_reducible refine Kd.C_drew ?_)))
            (case side2 => exact HC1.out)
            rintro e w' ⟨rfl, ⟨nd, rfl⟩⟩
            refine ⟨_, rfl, ?_⟩
            refine hK.out _ _ ⟨(blk_cell BK448.out 0).trans rfl, (blk_cell BK448.out 1).trans rfl, (blk_cell BK448.out 2).trans rfl, (blk_cell BK448.out 3).trans rfl, (blk_cell BK448.out 4).trans rfl⟩ (fun hHeld => ?_)
            clear hK K
            refine norm_ (a' := ?_) ?_ ?_
            rotate_left
            · show Act.put _ (some 26) _ = _
              simp only [Act.put, List.setIfInBounds_toArray, List.set_cons_zero, List.set_cons_succ, i64_w, i32_w]
              rfl
            refine one_ (i := 7) (N := some 27) #[true, true, true, true, true, true, true, true, true, true, true, true, true, true, false, false, false, false, false, false] rfl rfl (one_of HT_.out (by kernel_rfl)) (by decide) (fun K hK => ?_)
            refine goes_ Tryd.func66 (by kernel_rfl) rfl #[.agg #[.int .i64 ((rd_T57 l0_2 x6_1).f1.f0), .int .i64 ((rd_T57 l0_2 x6_1).f1.f1)], .int .i64 t449] (by rfl) rfl rfl (by (try simp only [List.map_toArray, List.map_cons, List.map_nil]); first | done | rfl | (simp only [List.length_drop, List.length_take]; rfl)) ?_
            with_reducible refine (wishbookref00_Lot.calls ((rd_T57 l0_2 x6_1).f1.f0) ((rd_T57 l0_2 x6_1).f1.f1) t449 t450 _ A7.out).mono ?_
            rintro e w17 ⟨rfl, hb⟩
            refine ⟨_, rfl, ?_⟩
            have n0_ := Aside0.mk (Kd.R_below (by (with_reducible repeat (first | apply Kd.R_alloc | apply Kd.R_drewN | apply Kd.R_drew)); exact HO_5.out) hb)
            have n1_ := Aside0.mk (blk_below (g := gb446) (o := .cells #[.slice A0_0 l0_0.length c0_0, .slice A0_1 l0_1.length c0_1, .slice (some ad447) l0_2.length c0_2] 26 (0, 0)) (by (with_reducible repeat (first | refine blk_drewN ?_ _ | refine blk_drew ?_ | refine blk_alloc ?_ _)); exact BK446.out) hb)
            have n2_ := Aside0.mk (blk_below (g := gb448) (o := .cells #[.int .i64 ((rd_T57 l0_2 x6_1).f0), .int .i64 ((rd_T57 l0_2 x6_1).f1.f0), .int .i64 ((rd_T57 l0_2 x6_1).f1.f1), .int .i64 ((rd_T57 l0_2 x6_1).f2.f0), .int .i64 ((rd_T57 l0_2 x6_1).f2.f1)] 57 (0, 0)) (by (with_reducible repeat (first | refine blk_drewN ?_ _ | refine blk_drew ?_ | refine blk_alloc ?_ _)); exact BK448.out) hb)
            have n3_ := Aside0.mk (below_step (by repeat (first | (with_reducible first | exact HB.out | apply below_alloc | apply pw_below_drewN | apply below_drew1 | refine below_set ?_ GE446.out | refine below_set ?_ GE448.out) | exact HB.out)) hb)
            clear HO_5
            clear BK446
            clear BK448
            clear HB
            have HO_5 := n0_
            have BK446 := n1_
            have BK448 := n2_
            have HB := n3_
            clear n0_ n1_ n2_ n3_
            (try clear hb)
            (try clear hb2)
            (try clear hk)
            (try clear hi)
            refine hK.out _ _ ⟨(blk_cell BK448.out 0).trans rfl, (blk_cell BK448.out 1).trans rfl, (blk_cell BK448.out 2).trans rfl, (blk_cell BK448.out 3).trans rfl, (blk_cell BK448.out 4).trans rfl⟩ (fun hHeld => ?_)
            clear hK K
            refine norm_ (a' := ?_) ?_ ?_
            rotate_left
            · show Act.put _ (some 27) _ = _
              simp only [Act.put, List.setIfInBounds_toArray, List.set_cons_zero, List.set_cons_succ, i64_w, i32_w]
              rfl
            refine one_ (i := 14) (N := some 34) #[true, true, true, true, true, true, true, true, true, true, true, true, true, true, true, false, false, false, false, false] rfl rfl (one_of HT_.out (by kernel_rfl)) (by decide) (fun K hK => ?_)
            refine goes_ Tryd.func67 (by kernel_rfl) rfl #[.slice A1 l1.length c1, .int .i64 (wrap64 ((wrap64 (2 * x6_1)) + 1))] (by rfl) rfl rfl (by (try simp only [List.map_toArray, List.map_cons, List.map_nil]); first | done | rfl | (simp only [List.length_drop, List.length_take]; rfl)) ?_
            with_reducible refine (wishbookref00_Take.calls _ _ l1 (wrap64 ((wrap64 (2 * x6_1)) + 1)) t451 _ ?side1 ?side2 A8.out).mono ?_
            (case side1 => repeat (first | exact (Kd.C_below HR1.out HB.out) | (with_reducible refine Kd.C_alloc ?_ _) | (with_reducible refine Kd.C_drewN ?_ _) | (with_reducible refine Kd.C_drew ?_)))
            (case side2 => exact HC1.out)
            rintro e w' ⟨rfl, ⟨nd, rfl⟩⟩
            refine ⟨_, rfl, ?_⟩
            refine hK.out _ _ ⟨(blk_cell BK448.out 0).trans rfl, (blk_cell BK448.out 1).trans rfl, (blk_cell BK448.out 2).trans rfl, (blk_cell BK448.out 3).trans rfl, (blk_cell BK448.out 4).trans rfl⟩ (fun hHeld => ?_)
            clear hK K
            refine norm_ (a' := ?_) ?_ ?_
            rotate_left
            · show Act.put _ (some 34) _ = _
              simp only [Act.put, List.setIfInBounds_toArray, List.set_cons_zero, List.set_cons_succ, i64_w, i32_w]
              rfl
            refine one_ (i := 15) (N := some 35) #[true, true, true, true, true, true, true, true, true, true, true, true, true, true, true, true, false, false, false, false] rfl rfl (one_of HT_.out (by kernel_rfl)) (by decide) (fun K hK => ?_)
            refine goes_ Tryd.func66 (by kernel_rfl) rfl #[.agg #[.int .i64 ((rd_T57 l0_2 x6_1).f2.f0), .int .i64 ((rd_T57 l0_2 x6_1).f2.f1)], .int .i64 t451] (by rfl) rfl rfl (by (try simp only [List.map_toArray, List.map_cons, List.map_nil]); first | done | rfl | (simp only [List.length_drop, List.length_take]; rfl)) ?_
            with_reducible refine (wishbookref00_Lot.calls ((rd_T57 l0_2 x6_1).f2.f0) ((rd_T57 l0_2 x6_1).f2.f1) t451 t452 _ A9.out).mono ?_
            rintro e w18 ⟨rfl, hb⟩
            refine ⟨_, rfl, ?_⟩
            have n0_ := Aside0.mk (Kd.R_below (by (with_reducible repeat (first | apply Kd.R_alloc | apply Kd.R_drewN | apply Kd.R_drew)); exact HO_5.out) hb)
            have n1_ := Aside0.mk (blk_below (g := gb446) (o := .cells #[.slice A0_0 l0_0.length c0_0, .slice A0_1 l0_1.length c0_1, .slice (some ad447) l0_2.length c0_2] 26 (0, 0)) (by (with_reducible repeat (first | refine blk_drewN ?_ _ | refine blk_drew ?_ | refine blk_alloc ?_ _)); exact BK446.out) hb)
            have n2_ := Aside0.mk (blk_below (g := gb448) (o := .cells #[.int .i64 ((rd_T57 l0_2 x6_1).f0), .int .i64 ((rd_T57 l0_2 x6_1).f1.f0), .int .i64 ((rd_T57 l0_2 x6_1).f1.f1), .int .i64 ((rd_T57 l0_2 x6_1).f2.f0), .int .i64 ((rd_T57 l0_2 x6_1).f2.f1)] 57 (0, 0)) (by (with_reducible repeat (first | refine blk_drewN ?_ _ | refine blk_drew ?_ | refine blk_alloc ?_ _)); exact BK448.out) hb)
            have n3_ := Aside0.mk (below_step (by repeat (first | (with_reducible first | exact HB.out | apply below_alloc | apply pw_below_drewN | apply below_drew1 | refine below_set ?_ GE446.out | refine below_set ?_ GE448.out) | exact HB.out)) hb)
            clear HO_5
            clear BK446
            clear BK448
            clear HB
            have HO_5 := n0_
            have BK446 := n1_
            have BK448 := n2_
            have HB := n3_
            clear n0_ n1_ n2_ n3_
            (try clear hb)
            (try clear hb2)
            (try clear hk)
            (try clear hi)
            refine hK.out _ _ ⟨(blk_cell BK448.out 0).trans rfl, (blk_cell BK448.out 1).trans rfl, (blk_cell BK448.out 2).trans rfl, (blk_cell BK448.out 3).trans rfl, (blk_cell BK448.out 4).trans rfl⟩ (fun hHeld => ?_)
            clear hK K
            refine norm_ (a' := ?_) ?_ ?_
            rotate_left
            · show Act.put _ (some 35) _ = _
              simp only [Act.put, List.setIfInBounds_toArray, List.set_cons_zero, List.set_cons_succ, i64_w, i32_w]
              rfl
            refine pure_ (i := 16) (N := some 36) (v := ?_) (a' := ?_) #[true, true, true, true, true, true, true, true, true, true, true, true, true, true, true, true, true, false, false, false] rfl rfl (any_of HT_.out (by kernel_rfl)) (fun _ _ _ h => h) (Or.inl ⟨by rfl, ?_⟩) ?_ ?_
            rotate_left
            · intro w'
              go_simp
              with_reducible rfl
            rotate_left
            · simp only [Act.put, List.setIfInBounds_toArray, List.set_cons_zero, List.set_cons_succ, i64_w, i32_w]
              rfl
            refine one_ (i := 17) (N := some 37) #[true, true, true, true, true, true, true, true, true, true, true, true, true, true, true, true, true, true, false, false] rfl rfl (one_of HT_.out (by kernel_rfl)) (by decide) (fun K hK => ?_)
            refine value_ (w1 := ?_) (v := ?_) (by rfl) rfl ?_ ?_
            rotate_left 2
            · go_simp
              constructor
              · rfl
              · rfl
            refine hK.out _ _ ⟨(blk_cell (blk_alloc BK448.out _) 0).trans rfl, (blk_cell (blk_alloc BK448.out _) 1).trans rfl, (blk_cell (blk_alloc BK448.out _) 2).trans rfl, (blk_cell (blk_alloc BK448.out _) 3).trans rfl, (blk_cell (blk_alloc BK448.out _) 4).trans rfl⟩ (fun hHeld => ?_)
            clear hK K
            refine norm_ (a' := ?_) ?_ ?_
            rotate_left
            · show Act.put _ (some 37) _ = _
              simp only [Act.put, List.setIfInBounds_toArray, List.set_cons_zero, List.set_cons_succ, i64_w, i32_w]
              rfl
            refine one_ (i := 18) (N := some 38) #[true, true, true, true, true, true, true, true, true, true, true, true, true, true, true, true, true, true, true, false] rfl rfl (one_of HT_.out (by kernel_rfl)) (by decide) (fun K hK => ?_)
            refine Kd.R_append_step k59 (w0 := w) w.heap.size (by rfl) (.tmp 20) (.tmp 37) 35 59 (.agg #[(.int .i64 0), (.int .i64 0)]) 16 rfl Tryd.underlying35 info59 rfl (by decide) (by omega) u5 x5_1 (⟨t450, t452⟩ : S59) [.int .i64 t450, .int .i64 t452] (fun _ => True) (fun _ => False) rfl rfl ?aP (fun _ hk => hk.elim) ?aF ?aO ?aB ?aS ?aL ?_
            (case aP => exact k59_mkM _ _ _ (⟨t450, t452⟩ : S59))
            (case aB => exact (by repeat (first | (with_reducible first | exact HB.out | apply below_alloc | apply pw_below_drewN | apply below_drew1 | refine below_set ?_ GE446.out | refine below_set ?_ GE448.out) | exact HB.out)))
            (case aF => exact (fun _ _ => trivial))
            (case aO => exact (by (with_reducible repeat (first | apply Kd.R_alloc | apply Kd.R_drewN | apply Kd.R_drew)); exact HO_5.out))
            (case aS => exact (below_size (by repeat (first | (with_reducible first | exact HB.out | apply below_alloc | apply pw_below_drewN | apply below_drew1 | refine below_set ?_ GE446.out | refine below_set ?_ GE448.out) | exact HB.out))))
            (case aL => have := LMc10.out; omega)
            intro v454 w19 ho hb hg hat
            rw [← Ny453.out] at ho
            have n0_ := Aside0.mk (blk_grown (g := gb446) (o := .cells #[.slice A0_0 l0_0.length c0_0, .slice A0_1 l0_1.length c0_1, .slice (some ad447) l0_2.length c0_2] 26 (0, 0)) (by (with_reducible repeat (first | refine blk_drewN ?_ _ | refine blk_drew ?_ | refine blk_alloc ?_ _)); exact BK446.out) hg (Kd.R_ne HO_5.out BK446.out (by decide)))
            have n1_ := Aside0.mk (blk_grown (g := gb448) (o := .cells #[.int .i64 ((rd_T57 l0_2 x6_1).f0), .int .i64 ((rd_T57 l0_2 x6_1).f1.f0), .int .i64 ((rd_T57 l0_2 x6_1).f1.f1), .int .i64 ((rd_T57 l0_2 x6_1).f2.f0), .int .i64 ((rd_T57 l0_2 x6_1).f2.f1)] 57 (0, 0)) (by (with_reducible repeat (first | refine blk_drewN ?_ _ | refine blk_drew ?_ | refine blk_alloc ?_ _)); exact BK448.out) hg (Kd.R_ne HO_5.out BK448.out (by decide)))
            have n2_ := Aside0.mk (hb)
            have n3_ := Aside0.mk (ho)
            clear BK446
            clear BK448
            clear HB
            clear HO_5
            have BK446 := n0_
            have BK448 := n1_
            have HB := n2_
            have HO455 := n3_
            clear n0_ n1_ n2_ n3_
            clear ho hb hg hat
            refine hK.out _ _ ⟨(blk_cell BK448.out 0).trans rfl, (blk_cell BK448.out 1).trans rfl, (blk_cell BK448.out 2).trans rfl, (blk_cell BK448.out 3).trans rfl, (blk_cell BK448.out 4).trans rfl⟩ (fun hHeld => ?_)
            clear hK K
            refine norm_ (a' := ?_) ?_ ?_
            rotate_left
            · show Act.put _ (some 38) _ = _
              simp only [Act.put, List.setIfInBounds_toArray, List.set_cons_zero, List.set_cons_succ, i64_w, i32_w]
              rfl
            refine pure_ (i := 19) (N := some 5) (v := ?_) (a' := ?_) #[true, true, true, true, true, true, true, true, true, true, true, true, true, true, true, true, true, true, true, true] rfl rfl (any_of HT_.out (by kernel_rfl)) (fun _ _ _ h => h) (Or.inl ⟨by rfl, ?_⟩) ?_ ?_
            rotate_left
            · intro w'
              go_simp
              with_reducible rfl
            rotate_left
            · simp only [Act.put, List.setIfInBounds_toArray, List.set_cons_zero, List.set_cons_succ, i64_w, i32_w]
              rfl
            refine done_ (done_of HT_.out (by kernel_rfl)) ?_
            try go_wp2
            go_roundg k1
            case measure => have := HK1.out; omega
            case rel => exact ⟨(y453), (wrap64 (x6_1 + 1)), (by first | rfl | (simp; done) | (simp [*]; done)), H', ⟨by have := HK1.out; omega⟩, ⟨by (with_reducible repeat (first | apply Kd.R_alloc | apply Kd.R_drewN | apply Kd.R_drew)); exact HO455.out⟩, ⟨by (with_reducible repeat (first | refine blk_drewN ?_ _ | refine blk_drew ?_ | refine blk_alloc ?_ _)); exact BK446.out⟩, ⟨by repeat (first | (with_reducible first | exact HB.out | apply below_alloc | apply pw_below_drewN | apply below_drew1 | refine below_set ?_ GE446.out | refine below_set ?_ GE448.out) | exact HB.out)⟩⟩
          · rw [if_neg c10] at H
            exact absurd H (by simp)
        · rw [if_neg c5] at H
          exact absurd H (by simp)
      · rw [if_neg c4] at H
        have c4b0 : decide (x6_1 < (l0_2.length : Int)) = false := decide_eq_false c4
        clear c4
        obtain rfl := Option.some.inj H
        have hcz20_0 : wr.cell? ⟨gb446, 0, none⟩ = some (.slice A0_0 l0_0.length c0_0) := (blk_cell BK446.out 0).trans rfl
        have hcz20_1 : wr.cell? ⟨gb446, 1, none⟩ = some (.slice A0_1 l0_1.length c0_1) := (blk_cell BK446.out 1).trans rfl
        have hcz20_2 : wr.cell? ⟨gb446, 2, none⟩ = some (.slice A0_2 l0_2.length c0_2) := (blk_cell BK446.out 2).trans rfl
        have hfz20_0 := blk_frozen BK446.out 0
        have hfz20_1 := blk_frozen BK446.out 1
        have hfz20_2 := blk_frozen BK446.out 2
        go_wp2
        go_ret
        exact ⟨_, by first | rfl | (simp [errW_none, errW_some] <;> rfl) | (simp [*, errW_none, errW_some] <;> rfl), by (with_reducible repeat (first | apply Kd.R_alloc | apply Kd.R_drewN | apply Kd.R_drew)); exact HO_5.out, by repeat (first | (with_reducible first | exact HB.out | apply below_alloc | apply pw_below_drewN | apply below_drew1 | refine below_set ?_ GE446.out) | exact HB.out)⟩
end Go.Proofs.YtegpepnmnlockaaDoor.PL
namespace Go.Proofs.YtegpepnmnlockaaDoor.PL
open Go.RowKit Go.Proofs.YtegpepnmnlockaaDoorW.PrintWords Go.Proofs.YtegpepnmnlockaaDoorW.PrintLast Go.Proofs.YtegpepnmnlockaaDoorW.PrintMore
set_option linter.unusedVariables false
set_option linter.unusedSimpArgs false
theorem spin_f (a n : Int) (h : 1 ≤ n) (hn : n ≤ 9000000000000000000) : ∃ r, wishbookref00_Spin.f a n = some r ∧ 0 ≤ r ∧ r < n := by
  unfold wishbookref00_Spin.f
  rw [if_neg (by omega), if_neg (by omega)]
  have h1 := Int.tmod_lt_of_pos a (show 0 < n by omega)
  have h2 := Int.lt_tmod_of_pos a (show 0 < n by omega)
  generalize Int.tmod a n = t at *
  by_cases c : t < 0
  · rw [if_pos c]
    refine ⟨_, rfl, ?_⟩
    unfold wrap64
    omega
  · rw [if_neg c]
    exact ⟨t, rfl, by omega, h1⟩
theorem take_f (l : List Int) (a : Int) (hl : (l.length : Int) ≤ 9000000000000000000) : ∃ r, wishbookref00_Take.f l a = some r := by
  unfold wishbookref00_Take.f
  by_cases c : (l.length : Int) = 0
  · rw [if_pos c]; exact ⟨_, rfl⟩
  · rw [if_neg c]
    obtain ⟨t, e, h1, h2⟩ := spin_f a l.length (by omega) hl
    rw [e, Option.bind_some, if_pos h1, if_pos h2]
    exact ⟨_, rfl⟩
theorem lot_f (lo hi a : Int) (h0 : 0 ≤ lo) (h1 : lo ≤ hi) (h2 : hi ≤ 1000) : ∃ r, wishbookref00_Lot.f lo hi a = some r ∧ lo ≤ r ∧ r ≤ hi := by
  unfold wishbookref00_Lot.f
  by_cases c : hi ≤ lo
  · rw [if_pos c]; exact ⟨_, rfl, by omega, by omega⟩
  · rw [if_neg c, wrap_id (x := hi - lo) (by omega) (by omega), wrap_id (x := hi - lo + 1) (by omega) (by omega), if_neg (by omega)]
    obtain ⟨t, e, b1, b2⟩ := spin_f a (hi - lo + 1) (by omega) (by omega)
    rw [e, Option.bind_some, wrap_id (by omega) (by omega)]
    exact ⟨_, rfl, by omega, by omega⟩
theorem rd_app59 (xs : List S59) (v : S59) (i : Nat) (hi : i ≤ xs.length) : rd_T59 (xs ++ [v]) i = if i = xs.length then v else rd_T59 xs i := by
  unfold rd_T59
  rw [Int.toNat_natCast, List.getD_eq_getElem?_getD, List.getD_eq_getElem?_getD]
  by_cases h : i = xs.length
  · rw [if_pos h, h, List.getElem?_append_right (Nat.le_refl _), Nat.sub_self]; rfl
  · rw [if_neg h, List.getElem?_append_left (by omega)]
section
variable (l0 : List Int) (l1 : List S47) (l2 : List S57)
theorem came_l0 (hb : okB l0 l1 l2 = true) (bits : List Int) (hbits : (bits.length : Int) ≤ 9000000000000000000) : ∀ (e i k : Nat) (out : List S59), i + e = l2.length → out.length = i → (∀ j : Nat, j < i → inDay (rd_T57 l2 j) (rd_T59 out j) ∧ inBy (rd_T57 l2 j) (rd_T59 out j)) → e + 1 ≤ k →
    ∃ cm : List S59, cm.length = l2.length ∧ (∀ j : Nat, j < l2.length → inDay (rd_T57 l2 j) (rd_T59 cm j) ∧ inBy (rd_T57 l2 j) (rd_T59 cm j)) ∧ wishbooklaw10_came.l0 k bits out i l0 l1 l2 = some cm
  | 0, i, k + 1, out, hi, ho, hp, hk => by
    refine ⟨out, by omega, fun j hj => hp j (by omega), ?_⟩
    rw [wishbooklaw10_came.l0, if_neg (by omega)]
  | e + 1, i, k + 1, out, hi, ho, hp, hk => by
    have f := okB_facts hb
    have x := okB_del hb (i := i) (by omega)
    unfold okDel at x
    obtain ⟨t1, e1⟩ := take_f bits (wrap64 (2 * (i : Int))) hbits
    obtain ⟨t2, e2⟩ := take_f bits (wrap64 ((wrap64 (2 * (i : Int))) + 1)) hbits
    obtain ⟨r1, e3, a1, a2⟩ := lot_f (rd_T57 l2 i).f1.f0 (rd_T57 l2 i).f1.f1 t1 (by omega) (by omega) (by omega)
    obtain ⟨r2, e4, a3, a4⟩ := lot_f (rd_T57 l2 i).f2.f0 (rd_T57 l2 i).f2.f1 t2 (by omega) (by omega) (by omega)
    rw [wishbooklaw10_came.l0, if_pos (by omega), if_pos (by omega), e1, Option.bind_some, e3, Option.bind_some, e2, Option.bind_some, e4, Option.bind_some, if_pos (by omega), wrap_succ (by omega)]
    refine came_l0 hb bits hbits e (i + 1) k (out ++ [⟨r1, r2⟩]) (by omega) (by simp; omega) (fun j hj => ?_) (by omega)
    rw [rd_app59 out _ j (by omega)]
    by_cases c : j = out.length
    · rw [if_pos c, c, ho]
      exact ⟨⟨a1, a2⟩, ⟨a3, a4⟩⟩
    · rw [if_neg c]
      exact hp j (by omega)
theorem came_f (hb : okB l0 l1 l2 = true) (bits : List Int) (hbits : (bits.length : Int) ≤ 9000000000000000000) (k : Nat) (hk : 10 ≤ k) :
    ∃ cm : List S59, cm.length = l2.length ∧ didAt l2 cm cm.length = true ∧ wishbooklaw10_came.f k l0 l1 l2 bits = some cm := by
  have f := okB_facts hb
  obtain ⟨cm, h1, h2, h3⟩ := came_l0 l0 l1 l2 hb bits hbits l2.length 0 k [] (by omega) rfl (fun j hj => by omega) (by omega)
  refine ⟨cm, h1, ?_, h3⟩
  unfold didAt
  rw [Bool.and_eq_true, beq_iff_eq, List.all_eq_true]
  refine ⟨by omega, fun j hj => ?_⟩
  have := h2 j (by have := List.mem_range.1 hj; omega)
  rw [Bool.and_eq_true, decide_eq_true_iff, decide_eq_true_iff]
  exact this
end
end Go.Proofs.YtegpepnmnlockaaDoor.PL
namespace Go.Proofs.YtegpepnmnlockaaDoor.PL
open Go.RowKit Go.Proofs.YtegpepnmnlockaaDoorW.PrintWords Go.Proofs.YtegpepnmnlockaaDoorW.PrintLast Go.Proofs.YtegpepnmnlockaaDoorW.PrintMore
set_option linter.unusedVariables false
set_option linter.unusedSimpArgs false
set_option maxHeartbeats 8000000 in
set_option maxRecDepth 100000 in
theorem with_calls (g mb0 : Nat) (A0 A1 A2 As : Option Addr) (n0 c0 n1 c1 n2 c2 ns cs : Nat) (left : List Int) (A3 : Option Addr) (c3 : Nat) (l3 : List S57) (w : World)
    (hg : w.heap[g]? = some (.cells (bookCells (.slice A0 n0 c0) (.slice A1 n1 c1) (.slice A2 n2 c2) left mb0 (.slice As ns cs)) 86 (0, 0))) (h3 : Kd.C k57 w A3 l3.length l3) (hc3 : l3.length ≤ c3) (hd : ∀ y ∈ l3, OkDel y) (hl : l3.length ≤ 6) :
    Calls Tryd.prog 57 #[.pointer (some ⟨g, 0, none⟩), .slice A3 l3.length c3] w fun e w' => ∃ g2 mb n, e = .returned (.pointer (some ⟨g2, 0, none⟩)) ∧ w.heap.size ≤ g2 ∧
      w'.heap[g2]? = some (.cells (bookCells (.slice A0 n0 c0) (.slice A1 n1 c1) (.slice A3 l3.length c3) left mb (.slice As ns cs)) 86 (0, 0)) ∧ SpotMap w' mb n (comTo l3 l3.length) ∧ n ≤ 1000 ∧ Below w.heap.size w w' := by
  have HG := Aside0.mk hg
  have H3 := Aside0.mk h3
  have HD := Aside0.mk hd
  have hu86 := Tryd.underlying86
  have q := fun i => blk_cell hg i
  have q0 := (q 0).trans (show _ = some (Value.slice A0 n0 c0) from rfl)
  have q1 := (q 1).trans (show _ = some (Value.slice A1 n1 c1) from rfl)
  have q2 := (q 2).trans (show _ = some (Value.slice A2 n2 c2) from rfl)
  have q3 := (q 3).trans (show _ = some (Value.int .i64 (rd left 0)) from rfl)
  have q4 := (q 4).trans (show _ = some (Value.int .i64 (rd left 1)) from rfl)
  have q5 := (q 5).trans (show _ = some (Value.int .i64 (rd left 2)) from rfl)
  have q6 := (q 6).trans (show _ = some (Value.int .i64 (rd left 3)) from rfl)
  have q7 := (q 7).trans (show _ = some (Value.int .i64 (rd left 4)) from rfl)
  have q8 := (q 8).trans (show _ = some (Value.map (some mb0)) from rfl)
  have q9 := (q 9).trans (show _ = some (Value.slice As ns cs) from rfl)
  clear q hg h3 hd
  go_enter Tryd.func57, Tryd.ntmps57
  go_wp2_with (fail)
  have HN := Aside0.mk (show (w.alloc (Obj.cells #[Value.slice A0 n0 c0, .slice A1 n1 c1, .slice A2 n2 c2, .int .i64 (rd left 0), .int .i64 (rd left 1), .int .i64 (rd left 2), .int .i64 (rd left 3), .int .i64 (rd left 4), .map (some mb0), .slice As ns cs] 86)).heap[w.heap.size]? = some (.cells (bookCells (.slice A0 n0 c0) (.slice A1 n1 c1) (.slice A2 n2 c2) left mb0 (.slice As ns cs)) 86 (0, 0)) from heap_alloc_new w _)
  have HB1 := Aside0.mk (below_alloc (Below.refl w.heap.size w) (Obj.cells #[Value.slice A0 n0 c0, .slice A1 n1 c1, .slice A2 n2 c2, .int .i64 (rd left 0), .int .i64 (rd left 1), .int .i64 (rd left 2), .int .i64 (rd left 3), .int .i64 (rd left 4), .map (some mb0), .slice As ns cs] 86))
  generalize w.alloc (Obj.cells #[Value.slice A0 n0 c0, .slice A1 n1 c1, .slice A2 n2 c2, .int .i64 (rd left 0), .int .i64 (rd left 1), .int .i64 (rd left 2), .int .i64 (rd left 3), .int .i64 (rd left 4), .map (some mb0), .slice As ns cs] 86) = W1 at HN HB1 ⊢
  refine (coming_calls A3 c3 l3 W1 (Kd.C_below H3.out HB1.out) hc3 HD.out hl).mono ?_
  rintro e w2 ⟨mb, n, rfl, hmb, hn, hm, hb2⟩
  have HN2 := Aside0.mk (blk_below HN.out hb2)
  have HM := Aside0.mk hm
  have HB2 := Aside0.mk (below_step HB1.out hb2)
  have c2 := (blk_cell HN2.out 2).trans (show _ = some (Value.slice A2 n2 c2) from rfl)
  have c8 := (blk_cell HN2.out 8).trans (show _ = some (Value.map (some mb0)) from rfl)
  have f2 := blk_frozen HN2.out 2
  have f8 := blk_frozen HN2.out 8
  clear hm hb2 q0 q1 q2 q3 q4 q5 q6 q7 q8 q9
  go_wp2
  refine bodyPost_ret (results_tmp rfl _ _ _) rfl ?_
  exact ⟨w.heap.size, mb, n, rfl, Nat.le_refl _, blk_put (blk_put HN2.out 2 _ rfl) 8 _ rfl,
    SpotMap.kept (row := some w.heap.size) HM.out (grownBy_setCell (grownBy_setCell (World.grownBy.refl w2 _) 2 _) 8 _) (by simpa using SpotMap.ne HM.out HN2.out), hn,
    (HB2.out.setCell (p := ⟨w.heap.size, 2, none⟩) (Nat.le_refl _) _).setCell (p := ⟨w.heap.size, 8, none⟩) (Nat.le_refl _) _⟩
end Go.Proofs.YtegpepnmnlockaaDoor.PL
namespace Go.Proofs.YtegpepnmnlockaaDoor.PL
open Go.RowKit Go.Proofs.YtegpepnmnlockaaDoorW.PrintWords Go.Proofs.YtegpepnmnlockaaDoorW.PrintLast Go.Proofs.YtegpepnmnlockaaDoorW.PrintMore
set_option linter.unusedVariables false
set_option linter.unusedSimpArgs false
theorem Flat.C_mk {α : Type} {d : Kd α} {enc : α → List Value} (F : Flat d enc) {w : World} {blk : Nat} {xs : List α} (hm : xs.length ≤ 1000)
    (h : ∀ (j : Nat) (x : α), xs[j]? = some x → ∀ i u, (enc x)[i]? = some u → w.cell? ⟨blk, j * d.sz + i, none⟩ = some u) : Kd.C d w (some ⟨blk, 0, none⟩) xs.length xs := by
  refine ⟨rfl, by omega, fun _ => ⟨_, rfl, fun j x hx => ⟨enc x, F.len x, d.K_of_M (F.M w 0 (fun _ => True) x), fun i u hu => ?_⟩⟩⟩
  have := h j x hx i u hu
  rw [Addr.add_lit, Nat.zero_add]
  exact this
/-- A delivery that comes n days later. -/
def moveF (l2 : List S57) (i : Nat) (n : Int) : List S57 := l2.set i ⟨(rd_T57 l2 i).f0, ⟨(rd_T57 l2 i).f1.f0, (rd_T57 l2 i).f1.f1 + n⟩, (rd_T57 l2 i).f2⟩
theorem moveF_len (l2 : List S57) (i : Nat) (n : Int) : (moveF l2 i n).length = l2.length := List.length_set
theorem moved_C {w W : World} {blk : Nat} {l2 : List S57} {i : Nat} {n : Int} (hi : i < l2.length) (hm : l2.length ≤ 1000) (h : Kd.C k57 w (some ⟨blk, 0, none⟩) l2.length l2)
    (hW : W.cell? ⟨blk, i * 5 + 2, none⟩ = some (.int .i64 ((rd_T57 l2 i).f1.f1 + n))) (hfar : ∀ k, k ≠ i * 5 + 2 → W.cell? ⟨blk, k, none⟩ = w.cell? ⟨blk, k, none⟩) :
    Kd.C k57 W (some ⟨blk, 0, none⟩) l2.length (moveF l2 i n) := by
  have hC := flat57.C_mk (w := W) (blk := blk) (xs := moveF l2 i n) (by rw [moveF_len]; exact hm) ?_
  · rw [moveF_len] at hC
    exact hC
  intro j x hx q u hu
  have hq : q < 5 := by
    have := (List.getElem?_eq_some_iff.1 hu).1
    rwa [flat57.len] at this
  show W.cell? ⟨blk, j * 5 + q, none⟩ = some u
  have hj : j < l2.length := by
    have := (List.getElem?_eq_some_iff.1 hx).1
    rwa [moveF_len] at this
  obtain ⟨ad, e, c0, c1, c2, c3, c4⟩ := at_T57 h j (by omega) (by omega)
  cases e
  simp only [Int.toNat_natCast, Addr.add_lit, Nat.zero_add] at c0 c1 c2 c3 c4
  unfold moveF at hx
  rw [List.getElem?_set] at hx
  by_cases hij : i = j
  · subst hij
    rw [if_pos rfl, if_pos hi] at hx
    cases hx
    match q, hq, hu with
    | 0, _, hu => cases hu; exact (hfar _ (by omega)).trans c0
    | 1, _, hu => cases hu; exact (hfar _ (by omega)).trans c1
    | 2, _, hu => cases hu; exact hW
    | 3, _, hu => cases hu; exact (hfar _ (by omega)).trans c3
    | 4, _, hu => cases hu; exact (hfar _ (by omega)).trans c4
  · rw [if_neg hij] at hx
    have hxj : x = rd_T57 l2 j := by
      unfold rd_T57
      rw [Int.toNat_natCast, List.getD_eq_getElem?_getD, hx]
      rfl
    subst hxj
    match q, hq, hu with
    | 0, _, hu => cases hu; exact (hfar _ (by omega)).trans c0
    | 1, _, hu => cases hu; exact (hfar _ (by omega)).trans c1
    | 2, _, hu => cases hu; exact (hfar _ (by omega)).trans c2
    | 3, _, hu => cases hu; exact (hfar _ (by omega)).trans c3
    | 4, _, hu => cases hu; exact (hfar _ (by omega)).trans c4
end Go.Proofs.YtegpepnmnlockaaDoor.PL
namespace Go.Proofs.YtegpepnmnlockaaDoor.PL
open Go.RowKit Go.Proofs.YtegpepnmnlockaaDoorW.PrintWords Go.Proofs.YtegpepnmnlockaaDoorW.PrintLast Go.Proofs.YtegpepnmnlockaaDoorW.PrintMore
set_option linter.unusedVariables false
set_option linter.unusedSimpArgs false
/-- How many days are told: the last one, of those in a row from n on, that can be. -/
def lateL (K : Nat → Bool) : Nat → Nat → Int → Int
  | 0, _, by' => by'
  | k + 1, n, by' => if K n = true then lateL K k (n + 1) n else by'
/-- Can the list of the delivery's good be kept if it comes n days later? -/
def lateK (l1 : List S47) (l2 : List S57) (sh : List S49) (i : Nat) (n : Nat) : Bool := keptF l1 (rd_T57 l2 i).f0 sh (comTo (moveF l2 i n) l2.length)
theorem moveF_ok {l0 : List Int} {l1 : List S47} {l2 : List S57} (hb : okB l0 l1 l2 = true) {i n : Nat} (hi : i < l2.length) (hn : n ≤ 101) : ∀ y ∈ moveF l2 i n, OkDel y := fun y hy => by
  rcases List.mem_or_eq_of_mem_set hy with hy | rfl
  · exact okDel_of (okB_facts hb).2.1 ((okB_facts hb).2.2.2.2.2.2.2 y hy)
  · have h := okB_del hb hi
    have := (okB_facts hb).2.1
    unfold okDel at h
    unfold OkDel
    show 0 ≤ (rd_T57 l2 i).f0 ∧ (rd_T57 l2 i).f0 ≤ 4 ∧ 1 ≤ (rd_T57 l2 i).f1.f1 + (n : Int) ∧ (rd_T57 l2 i).f1.f1 + (n : Int) ≤ 300 ∧ 0 ≤ (rd_T57 l2 i).f2.f0 ∧ (rd_T57 l2 i).f2.f0 ≤ 50
    omega
theorem moveF_f0 (l2 : List S57) (i : Nat) (n : Int) : (rd_T57 (moveF l2 i n) i).f0 = (rd_T57 l2 i).f0 := by
  by_cases h : i < l2.length
  · unfold moveF
    conv => lhs; unfold rd_T57
    rw [Int.toNat_natCast, List.getD_eq_getElem?_getD, List.getElem?_set_self h]
    rfl
  · unfold moveF
    rw [List.set_eq_of_length_le (by omega)]
def lack_Late.f (l0 : List Int) (l1 : List S47) (l2 : List S57) (a1 : Int) : Option (Int × Int) :=
  if Few l0 l1 l2 then (if okB l0 l1 l2 = true then (if 0 ≤ a1 ∧ a1 ≤ (l2.length : Int) - 1 then some (lateL (lateK l1 l2 (servF l0 l1 l2).2 a1.toNat) 101 0 0, 0) else some (0, 101)) else some (0, 100)) else none
set_option maxHeartbeats 8000000 in
set_option maxRecDepth 100000 in
theorem lack_Late.calls (A0 : Option Addr) (c0 : Nat) (l0 : List Int) (A1 : Option Addr) (c1 : Nat) (l1 : List S47) (A2 : Option Addr) (c2 : Nat) (l2 : List S57) (a1 : Int) (r1 : Int) (r2 : Int) (w : World)
    (h0 : Kd.C (Kd.int .i64) w A0 l0.length l0) (hc0 : l0.length ≤ c0) (h1 : Kd.C k47 w A1 l1.length l1) (hc1 : l1.length ≤ c1) (h2 : Kd.C k57 w A2 l2.length l2) (hc2 : l2.length ≤ c2) (hfa : Fates w)
    (h : lack_Late.f l0 l1 l2 a1 = some (r1, r2)) :
    Calls Tryd.prog 24 #[.agg #[.slice A0 l0.length c0, .slice A1 l1.length c1, .slice A2 l2.length c2], .int .i64 a1] w fun e w' => e = .returned (.tuple #[.int .i64 r1, .int .i64 r2]) ∧ Below w.heap.size w w' := by
  unfold lack_Late.f at h
  by_cases hf : Few l0 l1 l2
  case neg => rw [if_neg hf] at h; cases h
  rw [if_pos hf] at h
  have H0 := Aside0.mk h0
  have H1 := Aside0.mk h1
  have H2 := Aside0.mk h2
  have HFA := Aside0.mk hfa
  clear h0 h1 h2 hfa
  have hu26 := Tryd.underlying26
  have hu86 := Tryd.underlying86
  have W1 := below_alloc (Below.refl w.heap.size w) (.cells #[.slice A0 l0.length c0, .slice A1 l1.length c1, .slice A2 l2.length c2] 26)
  have HW1 := Aside0.mk W1
  clear W1
  have q := cell_book w A0 A1 A2 c0 c1 c2 l0 l1 l2
  have q0 := q.1
  have q1 := q.2.1
  have q2 := q.2.2
  clear q
  have hgw : IntKind.i64.wrap ((l2.length : Int) - 1) = (l2.length : Int) - 1 := by
    have h9 : (l2.length : Int) < 9000000000000000000 := hf.2.2
    rw [IntKind.wrap_i64]; omega
  by_cases c1_ : 0 ≤ a1 ∧ a1 ≤ (l2.length : Int) - 1
  · have hw1 : lack_within.f a1 0 ((l2.length : Int) - 1) = some true := by rw [within_f, decide_eq_true c1_]
    cases hb : okB l0 l1 l2 with
    | false =>
      rw [hb] at h
      cases h
      go_enter Tryd.func24, Tryd.ntmps24
      go_upto_region 1 with (fail)
      go_region_held3 (fun W => W.cell? ⟨w.heap.size, 0, none⟩ = some (.slice A0 l0.length c0) ∧ W.cell? ⟨w.heap.size, 1, none⟩ = some (.slice A1 l1.length c1) ∧ W.cell? ⟨w.heap.size, 2, none⟩ = some (.slice A2 l2.length c2)) (go_keep)
        (first
          | (go_at_call 50; (with_reducible refine (lack_within.calls _ 0 ((l2.length : Int) - 1) true _ hw1).mono ?_); rintro e w2 ⟨rfl, ⟨nd, rfl⟩⟩)
          | (go_at_call 46; (with_reducible refine (asked_bad A0 A1 A2 c0 c1 c2 l0 l1 l2 true _ (Kd.C_below H0.out (by repeat (first | (with_reducible exact HW1.out) | apply below_drew | apply pw_below_drewN))) hc0 (Kd.C_below H1.out (by repeat (first | (with_reducible exact HW1.out) | apply below_drew | apply pw_below_drewN))) hc1 (Kd.C_below H2.out (by repeat (first | (with_reducible exact HW1.out) | apply below_drew | apply pw_below_drewN))) hc2 hf hb).mono ?_); rintro e w4 ⟨rfl, hb4⟩; have HB4 := Aside0.mk (below_step (by repeat (first | (with_reducible exact HW1.out) | apply below_drew | apply pw_below_drewN)) hb4); have q0' := pw_cell_below hb4 (a := ⟨w.heap.size, 0, none⟩) (v := .slice A0 l0.length c0) q0; have q1' := pw_cell_below hb4 (a := ⟨w.heap.size, 1, none⟩) (v := .slice A1 l1.length c1) q1; have q2' := pw_cell_below hb4 (a := ⟨w.heap.size, 2, none⟩) (v := .slice A2 l2.length c2) q2; clear hb4))
      go_wp2
      refine bodyPost_ret (results_tmp2 rfl _ _ _) rfl ?_
      exact ⟨rfl, HB4.out⟩
    | true =>
      rw [hb] at h
      rw [if_pos rfl, if_pos c1_] at h
      obtain ⟨dl, rfl⟩ := Int.eq_ofNat_of_zero_le c1_.1
      obtain ⟨sh, hsh⟩ : ∃ sh, sh = (servF l0 l1 l2).2 := ⟨_, rfl⟩
      rw [← hsh] at h
      have HSH := Aside0.mk hsh
      clear hsh
      cases h
      go_enter Tryd.func24, Tryd.ntmps24
      go_upto_region 1 with (fail)
      go_region_held3 (fun W => W.cell? ⟨w.heap.size, 0, none⟩ = some (.slice A0 l0.length c0) ∧ W.cell? ⟨w.heap.size, 1, none⟩ = some (.slice A1 l1.length c1) ∧ W.cell? ⟨w.heap.size, 2, none⟩ = some (.slice A2 l2.length c2)) (go_keep)
        (first
          | (go_at_call 50; (with_reducible refine (lack_within.calls _ 0 ((l2.length : Int) - 1) true _ hw1).mono ?_); rintro e w2 ⟨rfl, ⟨nd, rfl⟩⟩)
          | (go_at_call 46; (with_reducible refine (asked_ok A0 A1 A2 c0 c1 c2 l0 l1 l2 true _ (Kd.C_below H0.out (by repeat (first | (with_reducible exact HW1.out) | apply below_drew | apply pw_below_drewN))) hc0 (Kd.C_below H1.out (by repeat (first | (with_reducible exact HW1.out) | apply below_drew | apply pw_below_drewN))) hc1 (Kd.C_below H2.out (by repeat (first | (with_reducible exact HW1.out) | apply below_drew | apply pw_below_drewN))) hc2 hf hb rfl (Fates.below HFA.out (by repeat (first | (with_reducible exact HW1.out) | apply below_drew | apply pw_below_drewN)))).mono ?_); rintro e w4 ⟨g, mb, n, sv, rfl, hbk⟩; have HBK := Aside0.mk (hbk.lower (by repeat (first | (with_reducible exact HW1.out) | apply below_drew | apply pw_below_drewN))); have HX4 := Aside0.mk ((hbk.below.block w.heap.size (by simp)).trans (heap_alloc_new w (.cells #[.slice A0 l0.length c0, .slice A1 l1.length c1, .slice A2 l2.length c2] 26))); have q0' := pw_cell_below hbk.below (a := ⟨w.heap.size, 0, none⟩) (v := .slice A0 l0.length c0) q0; have q1' := pw_cell_below hbk.below (a := ⟨w.heap.size, 1, none⟩) (v := .slice A1 l1.length c1) q1; have q2' := pw_cell_below hbk.below (a := ⟨w.heap.size, 2, none⟩) (v := .slice A2 l2.length c2) q2; clear hbk))
      have FF := Aside0.mk (okB_facts hb)
      have hn5 : l0.length ≤ 5 := FF.out.2.1
      have hl10 : l1.length ≤ 10 := FF.out.2.2.2.1
      have hl6 : l2.length ≤ 6 := FF.out.2.2.2.2.1
      obtain ⟨As, cs, hsv, hcs, hV⟩ := R_cut HBK.out.rows
      have hls : (servF l0 l1 l2).2.length = l1.length := (servF_len l1 l2 hn5).2
      rw [hls] at hsv hcs hV
      subst hsv
      have HCS := Aside0.mk hcs
      have HV := Aside0.mk hV
      clear hV hcs
      have HOK := Aside0.mk (servF_ok hb).2
      rw [← HSH.out] at HV HOK hls
      have HG2 := Aside0.mk (show w4.heap[g]? = some (.cells (bookCells (.slice A0 l0.length c0) (.slice A1 l1.length c1) (.slice A2 l2.length c2) (servF l0 l1 l2).1 mb (.slice As l1.length cs)) 86 (0, 0)) from HBK.out.cells)
      have HL2 := Aside0.mk HBK.out.below
      have HC9 := Aside0.mk (show Kd.C k49 w4 As l1.length sh by rw [← hls]; exact (Kd.V_reads' HV.out).2.2)
      have HM2 := Aside0.mk HBK.out.map
      have hn1000 := HBK.out.small
      have hgw0 := HBK.out.new
      clear HBK q0 q1 q2 q0' q1' q2' hgw hw1
      have PG := Aside0.mk ((blk_cell HG2.out 9).trans (show _ = some (Value.slice As l1.length cs) from rfl))
      have PX2 := Aside0.mk ((blk_cell HX4.out 2).trans (show _ = some (Value.slice A2 l2.length c2) from rfl))
      have hdl : dl < l2.length := by omega
      go_wp2_with (fail)
      go_loopw [8, 26] (fun v i wr => ∃ (n : Nat) (b : Int), n ≤ 101 ∧ i = .int .i64 n ∧ v = .int .i64 b ∧ Aside0 (lateL (lateK l1 l2 sh dl) 101 0 0 = lateL (lateK l1 l2 sh dl) (101 - n) n b) ∧ Aside0 (Below w4.heap.size w4 wr)) (fun _ i _ => 101 - (intOf i).toNat)
      case atStart => exact ⟨0, 0, by omega, rfl, rfl, ⟨rfl⟩, ⟨Below.refl _ _⟩⟩
      case round =>
        obtain ⟨n, b, hn, rfl, rfl, HE, HC⟩ := hrel
        obtain ⟨ad2, e2, d0, d1, d2, d3, d4⟩ := at_T57 (Kd.C_below (Kd.C_below H2.out HL2.out) HC.out) dl (by omega) (by omega)
        clear d0 d1 d2 d3 d4
        subst e2
        have hdel := okB_del hb hdl
        by_cases hnn : n < 101
        · have y2 := pw_cell_below HC.out PX2.out
          go_wp2_with (fail)
          refine (clone24_calls ad2 c2 l2.length l2 wr rfl (Kd.C_below (Kd.C_below H2.out HL2.out) HC.out) (by omega) (by omega)).mono ?_
          rintro e w5 ⟨v, rfl, hR, hb5⟩
          have hC5 := (Kd.R_reads hR)
          obtain ⟨_, inner, ⟨hli, ho⟩, hri⟩ := hR
          rcases ho with ⟨_, h0⟩ | ⟨blk, cap, cur, rfl, hbk, hrow, hcp1, hcp2, hcp3, hcp4⟩
          · omega
          obtain ⟨A5, c5, hv5, hle5, hC5⟩ := hC5
          cases hv5
          have HC5 := Aside0.mk hC5
          have HROW := Aside0.mk hrow
          have HB5 := Aside0.mk (below_step HC.out hb5)
          clear hC5 hb5 hri hli hcp4 y2
          obtain ⟨adn, en, m0, m1, m2, m3, m4⟩ := at_T57 HC5.out dl (by omega) (by omega)
          cases en
          simp only [Int.toNat_natCast, Addr.add_lit, Nat.zero_add] at m2
          have fr2 := blk_frozen HROW.out (dl * 5 + 2)
          clear m0 m1 m3 m4
          have hdn : 0 ≤ (rd_T57 l2 dl).f1.f1 ∧ (rd_T57 l2 dl).f1.f1 ≤ 100 := by
            unfold okDel at hdel
            omega
          have hdli : (dl : Int) < (l2.length : Int) := by omega
          go_upto_region 10 with (fail)
          have HC6 := Aside0.mk (moved_C (W := w5.setCell ⟨blk, dl * 5 + 2, none⟩ (Value.int .i64 ((rd_T57 l2 dl).f1.f1 + (n : Int)))) hdl (by omega) HC5.out (World.cell?_setCell_same _ _ _ m2) (fun k hk => World.cell?_setCell_other _ _ _ _ (fun e => hk (by cases e; rfl))))
          have HB6 := Aside0.mk (HB5.out.setCell (p := ⟨blk, dl * 5 + 2, none⟩) (Nat.le_trans (below_size HC.out) hbk) (Value.int .i64 ((rd_T57 l2 dl).f1.f1 + (n : Int))))
          generalize w5.setCell ⟨blk, dl * 5 + 2, none⟩ (Value.int .i64 ((rd_T57 l2 dl).f1.f1 + (n : Int))) = W6 at HC6 HB6 ⊢
          clear m2 fr2
          have hwc := with_calls g mb A0 A1 (some ad2) As l0.length c0 l1.length c1 l2.length c2 l1.length cs (servF l0 l1 l2).1 (some ⟨blk, 0, none⟩) cap (moveF l2 dl n) W6 (blk_below HG2.out HB6.out) (by rw [moveF_len]; exact HC6.out) (by rw [moveF_len]; exact hcp1) (moveF_ok hb hdl (by omega)) (by rw [moveF_len]; exact hl6)
          rw [moveF_len] at hwc
          go_wp2_with (fail)
          refine hwc.mono ?_
          rintro e w7 ⟨g2, mb2, n2, rfl, hg2, hcells, hmap, hn2, hb7⟩
          have HC7 := Aside0.mk hcells
          have HM7 := Aside0.mk hmap
          have HX7 := Aside0.mk (Kd.C_below HC6.out hb7)
          have HB7 := Aside0.mk (below_step HB6.out hb7)
          clear hwc hcells hmap hb7
          have p9 := pw_cell_below HB7.out PG.out
          obtain ⟨ad7, e7, m0, m1, m2, m3, m4⟩ := at_T57 HX7.out dl (by omega) (by omega)
          cases e7
          simp only [Int.toNat_natCast, Addr.add_lit, Nat.zero_add, moveF_f0] at m0
          clear m1 m2 m3 m4
          have hgd : 0 ≤ (rd_T57 l2 dl).f0 ∧ (rd_T57 l2 dl).f0 ≤ 4 := by
            unfold okDel at hdel
            omega
          have HKC := Aside0.mk (show ∀ W, Below w7.heap.size w7 W → Calls Tryd.prog 58 #[.pointer (some ⟨g2, 0, none⟩), .int .i64 (rd_T57 l2 dl).f0, .slice As l1.length cs] W fun e w' => e = .returned (.bool (lateK l1 l2 sh dl n)) ∧ Below W.heap.size W w' from fun W hW =>
            kept_calls' g2 mb2 n2 (.slice A0 l0.length c0) (.slice (some ⟨blk, 0, none⟩) l2.length cap) (.slice As l1.length cs) A1 c1 l1 (servF l0 l1 l2).1 (comTo (moveF l2 dl n) l2.length) (rd_T57 l2 dl).f0 As cs l1.length sh W hls.symm (blk_below HC7.out hW) (SpotMap.below HM7.out hW)
              (Kd.C_below (Kd.C_below H1.out (below_step HL2.out HB7.out)) hW) hc1 (by rw [hls]; exact Kd.C_below (Kd.C_below HC9.out HB7.out) hW) (by rw [hls]; exact HCS.out) (by omega) (by omega) (fun s hs => by have := HOK.out s hs; unfold OkShare at this; omega) hgd)
          clear hls hgd
          cases hK : lateK l1 l2 sh dl n with
          | false =>
            rw [hK] at HKC
            have HV := Aside0.mk (show lateL (lateK l1 l2 sh dl) (101 - n) n b = b by rw [show 101 - n = (100 - n) + 1 by omega, lateL, hK]; rfl)
            clear hK
            go_wp2_with (fail)
            go_region_held3 (fun W => W.cell? ⟨blk, dl * 5, none⟩ = some (.int .i64 (rd_T57 l2 dl).f0) ∧ W.cell? ⟨g, 9, none⟩ = some (.slice As l1.length cs)) (go_keep)
              ((go_at_call 58; (with_reducible refine (HKC.out _ (by repeat (first | exact Below.refl _ _ | apply below_drew | apply pw_below_drewN))).mono ?_); rintro e w8 ⟨rfl, hb8⟩; have m0' := pw_cell_below hb8 (a := ⟨blk, dl * 5, none⟩) (v := .int .i64 (rd_T57 l2 dl).f0) m0; have p9' := pw_cell_below hb8 (a := ⟨g, 9, none⟩) (v := .slice As l1.length cs) p9; have HB8 := Aside0.mk (below_step (by repeat (first | (with_reducible exact HB7.out) | apply below_drew | apply pw_below_drewN)) hb8); clear hb8))
            all_goals
              go_wp2
              refine bodyPost_ret (results_tmp2 rfl _ _ _) rfl ?_
              exact ⟨by simp only [Int.toNat_natCast]; rw [HE.out, HV.out]; rfl, below_step HL2.out HB8.out⟩
          | true =>
            rw [hK] at HKC
            have HV := Aside0.mk (show lateL (lateK l1 l2 sh dl) (101 - n) n b = lateL (lateK l1 l2 sh dl) (101 - (n + 1)) (n + 1) n by rw [show 101 - n = (101 - (n + 1)) + 1 by omega, lateL, hK]; rfl)
            clear hK
            go_wp2_with (fail)
            go_region_held3 (fun W => W.cell? ⟨blk, dl * 5, none⟩ = some (.int .i64 (rd_T57 l2 dl).f0) ∧ W.cell? ⟨g, 9, none⟩ = some (.slice As l1.length cs)) (go_keep)
              ((go_at_call 58; (with_reducible refine (HKC.out _ (by repeat (first | exact Below.refl _ _ | apply below_drew | apply pw_below_drewN))).mono ?_); rintro e w8 ⟨rfl, hb8⟩; have m0' := pw_cell_below hb8 (a := ⟨blk, dl * 5, none⟩) (v := .int .i64 (rd_T57 l2 dl).f0) m0; have p9' := pw_cell_below hb8 (a := ⟨g, 9, none⟩) (v := .slice As l1.length cs) p9; have HB8 := Aside0.mk (below_step (by repeat (first | (with_reducible exact HB7.out) | apply below_drew | apply pw_below_drewN)) hb8); clear hb8))
            all_goals
              go_wp2
              go_roundw
              case rel => exact ⟨n + 1, n, by omega, by go_num, rfl, ⟨by rw [HE.out, HV.out]⟩, HB8⟩
              case measure => simp [intOf]; omega
        · obtain rfl : n = 101 := by omega
          go_wp2
          refine bodyPost_ret (results_tmp2 rfl _ _ _) rfl ?_
          exact ⟨by simp only [Int.toNat_natCast]; rw [HE.out]; rfl, below_step HL2.out HC.out⟩
  · have hw1 : lack_within.f a1 0 ((l2.length : Int) - 1) = some false := by rw [within_f, decide_eq_false c1_]
    cases hb : okB l0 l1 l2 with
    | false =>
      rw [hb] at h
      cases h
      go_enter Tryd.func24, Tryd.ntmps24
      go_upto_region 1 with (fail)
      go_region_held3 (fun W => W.cell? ⟨w.heap.size, 0, none⟩ = some (.slice A0 l0.length c0) ∧ W.cell? ⟨w.heap.size, 1, none⟩ = some (.slice A1 l1.length c1) ∧ W.cell? ⟨w.heap.size, 2, none⟩ = some (.slice A2 l2.length c2)) (go_keep)
        (first
          | (go_at_call 50; (with_reducible refine (lack_within.calls _ 0 ((l2.length : Int) - 1) false _ hw1).mono ?_); rintro e w2 ⟨rfl, ⟨nd, rfl⟩⟩)
          | (go_at_call 46; (with_reducible refine (asked_bad A0 A1 A2 c0 c1 c2 l0 l1 l2 false _ (Kd.C_below H0.out (by repeat (first | (with_reducible exact HW1.out) | apply below_drew | apply pw_below_drewN))) hc0 (Kd.C_below H1.out (by repeat (first | (with_reducible exact HW1.out) | apply below_drew | apply pw_below_drewN))) hc1 (Kd.C_below H2.out (by repeat (first | (with_reducible exact HW1.out) | apply below_drew | apply pw_below_drewN))) hc2 hf hb).mono ?_); rintro e w4 ⟨rfl, hb4⟩; have HB4 := Aside0.mk (below_step (by repeat (first | (with_reducible exact HW1.out) | apply below_drew | apply pw_below_drewN)) hb4); have q0' := pw_cell_below hb4 (a := ⟨w.heap.size, 0, none⟩) (v := .slice A0 l0.length c0) q0; have q1' := pw_cell_below hb4 (a := ⟨w.heap.size, 1, none⟩) (v := .slice A1 l1.length c1) q1; have q2' := pw_cell_below hb4 (a := ⟨w.heap.size, 2, none⟩) (v := .slice A2 l2.length c2) q2; clear hb4))
      go_wp2
      refine bodyPost_ret (results_tmp2 rfl _ _ _) rfl ?_
      exact ⟨rfl, HB4.out⟩
    | true =>
      rw [hb] at h
      rw [if_pos rfl, if_neg c1_] at h
      cases h
      go_enter Tryd.func24, Tryd.ntmps24
      go_upto_region 1 with (fail)
      go_region_held3 (fun W => W.cell? ⟨w.heap.size, 0, none⟩ = some (.slice A0 l0.length c0) ∧ W.cell? ⟨w.heap.size, 1, none⟩ = some (.slice A1 l1.length c1) ∧ W.cell? ⟨w.heap.size, 2, none⟩ = some (.slice A2 l2.length c2)) (go_keep)
        (first
          | (go_at_call 50; (with_reducible refine (lack_within.calls _ 0 ((l2.length : Int) - 1) false _ hw1).mono ?_); rintro e w2 ⟨rfl, ⟨nd, rfl⟩⟩)
          | (go_at_call 46; (with_reducible refine (asked_not A0 A1 A2 c0 c1 c2 l0 l1 l2 false _ (Kd.C_below H0.out (by repeat (first | (with_reducible exact HW1.out) | apply below_drew | apply pw_below_drewN))) hc0 (Kd.C_below H1.out (by repeat (first | (with_reducible exact HW1.out) | apply below_drew | apply pw_below_drewN))) hc1 (Kd.C_below H2.out (by repeat (first | (with_reducible exact HW1.out) | apply below_drew | apply pw_below_drewN))) hc2 hf hb rfl).mono ?_); rintro e w4 ⟨rfl, hb4⟩; have HB4 := Aside0.mk (below_step (by repeat (first | (with_reducible exact HW1.out) | apply below_drew | apply pw_below_drewN)) hb4); have q0' := pw_cell_below hb4 (a := ⟨w.heap.size, 0, none⟩) (v := .slice A0 l0.length c0) q0; have q1' := pw_cell_below hb4 (a := ⟨w.heap.size, 1, none⟩) (v := .slice A1 l1.length c1) q1; have q2' := pw_cell_below hb4 (a := ⟨w.heap.size, 2, none⟩) (v := .slice A2 l2.length c2) q2; clear hb4))
      go_wp2
      refine bodyPost_ret (results_tmp2 rfl _ _ _) rfl ?_
      exact ⟨rfl, HB4.out⟩
end Go.Proofs.YtegpepnmnlockaaDoor.PL

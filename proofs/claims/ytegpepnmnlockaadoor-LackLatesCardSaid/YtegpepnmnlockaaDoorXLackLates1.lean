/- Part 1 of a proof: what the last text rests on. -/
import Derived.Test.YtegpepnmnlockaaDoorXLackLates0
namespace Go.Proofs.YtegpepnmnlockaaDoor.PL
open Go.RowKit Go.Proofs.YtegpepnmnlockaaDoorW.PrintWords Go.Proofs.YtegpepnmnlockaaDoorW.PrintLast Go.Proofs.YtegpepnmnlockaaDoorW.PrintMore
set_option linter.unusedVariables false
set_option linter.unusedSimpArgs false
theorem rd_put (xs : List Int) {j : Nat} (v : Int) (hj : j < xs.length) (i : Nat) : rd (xs.set j v) i = if i = j then v else rd xs i := by
  unfold rd
  rw [Int.toNat_natCast, List.getD_eq_getElem?_getD, List.getD_eq_getElem?_getD, List.getElem?_set]
  by_cases h : j = i
  · rw [if_pos h, if_pos hj, if_pos h.symm]; rfl
  · rw [if_neg h, if_neg (Ne.symm h)]
/-- What still must come till a line is served. -/
def remG (l1 : List S47) (wt : List Int) (line : Nat) : Nat → Int
  | 0 => 0
  | i + 1 => remG l1 wt line i + if turnLe l1 i line then rd wt i else 0
def WOk (l1 : List S47) (wt : List Int) : Prop := wt.length = l1.length ∧ ∀ i : Nat, 0 ≤ rd wt i ∧ rd wt i ≤ 20
theorem remG_nonneg {l1 : List S47} {wt : List Int} (h : WOk l1 wt) (line : Nat) : ∀ n, 0 ≤ remG l1 wt line n
  | 0 => Int.le_refl _
  | n + 1 => by
    have ih := remG_nonneg h line n
    have := (h.2 n).1
    rw [remG]
    split <;> omega
theorem remG_ge {l1 : List S47} {wt : List Int} (h : WOk l1 wt) (line : Nat) : ∀ n, line < n → rd wt line ≤ remG l1 wt line n
  | n + 1, hn => by
    have h0 := remG_nonneg h line n
    have h1 := (h.2 n).1
    rw [remG]
    by_cases e : line = n
    · rw [← e, if_pos (show turnLe l1 line line from Or.inr ⟨rfl, Nat.le_refl _⟩)]
      rw [← e] at h0
      omega
    · have ih := remG_ge h line n (by omega)
      split <;> omega
theorem remG_zero {l1 : List S47} {wt : List Int} {line : Nat} : ∀ n, (∀ i : Nat, i < n → turnLe l1 i line → rd wt i = 0) → remG l1 wt line n = 0
  | 0, _ => rfl
  | n + 1, h => by
    rw [remG, remG_zero n (fun i hi => h i (by omega))]
    split
    · rw [h n (by omega) ‹_›]; rfl
    · rfl
theorem remG_put {l1 : List S47} {wt : List Int} {line j : Nat} (v : Int) (hj : j < wt.length) (ht : turnLe l1 j line) : ∀ n, remG l1 (wt.set j v) line n = remG l1 wt line n + if j < n then v - rd wt j else 0
  | 0 => by rw [remG, remG, if_neg (by omega)]; rfl
  | n + 1 => by
    rw [remG, remG, remG_put v hj ht n, rd_put wt v hj]
    by_cases e : n = j
    · subst e
      rw [if_pos ht, if_pos rfl, if_pos ht, if_neg (by omega), if_pos (by omega)]
      omega
    · rw [if_neg e]
      by_cases c : j < n
      · rw [if_pos c, if_pos (show j < n + 1 by omega)]; omega
      · rw [if_neg c, if_neg (show ¬ j < n + 1 by omega)]; omega
/-- The line that is served next, of the first n. -/
def FP (l1 : List S47) (wt : List Int) (n : Nat) (r : Int) : Prop := (r = -1 ∧ ∀ j : Nat, j < n → rd wt j ≤ 0) ∨ ∃ j : Nat, r = j ∧ j < n ∧ 0 < rd wt j ∧ ∀ i : Nat, i < n → 0 < rd wt i → turnLe l1 j i
section
variable (l0 : List Int) (l1 : List S47) (l2 : List S57)
/-- One piece comes. -/
theorem piece {wt : List Int} {line : Nat} {r : Int} (h : WOk l1 wt) (hline : line < l1.length) (hw : 0 < rd wt line) (hr : FP l1 wt wt.length r) :
    ∃ j : Nat, r = j ∧ j < wt.length ∧ 0 < rd wt j ∧ WOk l1 (wt.set j (rd wt j - 1)) ∧ remG l1 (wt.set j (rd wt j - 1)) line l1.length = remG l1 wt line l1.length - 1 ∧ (rd (wt.set j (rd wt j - 1)) line = 0 ↔ remG l1 (wt.set j (rd wt j - 1)) line l1.length = 0) := by
  obtain ⟨hlen, hb⟩ := h
  rcases hr with ⟨_, hr⟩ | ⟨j, rfl, hj, hp, hm⟩
  · have := hr line (by omega); omega
  have ht := hm line (by omega) hw
  have hok : WOk l1 (wt.set j (rd wt j - 1)) := by
    refine ⟨by rw [List.length_set]; exact hlen, fun i => ?_⟩
    have b1 := hb i
    have b2 := hb j
    rw [rd_put wt _ hj]
    split <;> omega
  have hrem : remG l1 (wt.set j (rd wt j - 1)) line l1.length = remG l1 wt line l1.length - 1 := by
    rw [remG_put _ hj ht, if_pos (by omega)]
    omega
  refine ⟨j, rfl, hj, hp, hok, hrem, fun h0 => ?_, fun h0 => ?_⟩
  · refine remG_zero _ fun i hi hti => ?_
    rw [rd_put wt _ hj] at h0
    have b1 := hb i
    by_cases e : line = j
    · rw [if_pos e] at h0
      rw [rd_put wt _ hj]
      by_cases e2 : i = j
      · rw [if_pos e2]; exact h0
      · rw [if_neg e2]
        by_cases e3 : 0 < rd wt i
        · have := hm i (by omega) e3
          unfold turnLe at *
          rw [e] at hti
          omega
        · omega
    · rw [if_neg e] at h0; omega
  · have h1 := remG_ge hok line l1.length hline
    have h2 := hok.2 line
    omega
theorem rserved (hf : Few l0 l1 l2) (hb : okB l0 l1 l2 = true) : wishbookref10_served.f l0 l1 l2 = some ((servF l0 l1 l2).2, (servF l0 l1 l2).1.take l0.length) := by
  unfold wishbookref10_served.f
  rw [if_pos hf, hb, if_pos rfl]
end
end Go.Proofs.YtegpepnmnlockaaDoor.PL
namespace Go.Proofs.YtegpepnmnlockaaDoor.PL
open Go.RowKit Go.Proofs.YtegpepnmnlockaaDoorW.PrintWords Go.Proofs.YtegpepnmnlockaaDoorW.PrintLast Go.Proofs.YtegpepnmnlockaaDoorW.PrintMore
set_option linter.unusedVariables false
set_option linter.unusedSimpArgs false
theorem Tween_f (a lo hi : Int) : wishbookref00_Tween.f a lo hi = some (decide (lo ≤ a) && decide (a ≤ hi)) := by
  unfold wishbookref00_Tween.f
  by_cases h : lo ≤ a
  · rw [if_pos h, decide_eq_true h, Bool.true_and]
  · rw [if_neg h, decide_eq_false h, Bool.false_and]
theorem asked_f (l0 : List Int) (l1 : List S47) (l2 : List S57) (hf : Few l0 l1 l2) (b : Bool) : wishbookref10_asked.f l0 l1 l2 b = some (if okB l0 l1 l2 = true then (if b = true then 0 else 101) else 100) := by
  unfold wishbookref10_asked.f
  rw [RCheck_f l0 l1 l2 hf, Option.bind_some]
  cases okB l0 l1 l2 with
  | false => rfl
  | true => cases b <;> rfl
section
variable (l0 : List Int) (l1 : List S47) (l2 : List S57)
end
end Go.Proofs.YtegpepnmnlockaaDoor.PL
namespace Go.Proofs.YtegpepnmnlockaaDoor.PL
open Go.RowKit Go.Proofs.YtegpepnmnlockaaDoorW.PrintWords Go.Proofs.YtegpepnmnlockaaDoorW.PrintLast Go.Proofs.YtegpepnmnlockaaDoorW.PrintMore
set_option linter.unusedVariables false
set_option linter.unusedSimpArgs false
theorem f2s_take (sh : List S49) {i : Nat} (h : i < sh.length) : f2s (sh.take (i + 1)) = f2s (sh.take i) ++ [(rd_T49 sh i).f2] := by
  unfold f2s rd_T49
  rw [List.take_add_one, List.map_append, Int.toNat_natCast, List.getD_eq_getElem?_getD, List.getElem?_eq_getElem h]
  rfl
theorem list_l0 (sh : List S49) (hl : sh.length ≤ 1000) : ∀ (d i k : Nat), i + d = sh.length → d + 1 ≤ k → wishbookref10_list.l0 k sh (f2s (sh.take i)) i = some (f2s sh)
  | 0, i, k + 1, hi, hk => by
    rw [wishbookref10_list.l0, if_neg (by omega), show i = sh.length by omega, List.take_length]
  | d + 1, i, k + 1, hi, hk => by
    have ih := list_l0 sh hl d (i + 1) k (by omega) (by omega)
    rw [f2s_take sh (by omega)] at ih
    have h1 : (f2s (sh.take i)).length ≤ i := by rw [f2s_len, List.length_take]; omega
    rw [wishbookref10_list.l0, if_pos (by omega), if_pos (by omega), if_pos (by omega), wrap_succ (by omega)]
    exact ih
theorem list_f (l0 : List Int) (l1 : List S47) (l2 : List S57) (hf : Few l0 l1 l2) (hb : okB l0 l1 l2 = true) (k : Nat) (hk : 20 ≤ k) : wishbookref10_list.f k l0 l1 l2 = some (f2s (servF l0 l1 l2).2) := by
  have f := okB_facts hb
  have hlen := (servF_len l1 l2 f.2.1).2
  unfold wishbookref10_list.f
  rw [rserved l0 l1 l2 hf hb, Option.bind_some]
  exact list_l0 (servF l0 l1 l2).2 (by omega) (servF l0 l1 l2).2.length 0 k (by omega) (by omega)
section
variable (l0 : List Int) (l1 : List S47) (l2 : List S57) (sh : List S49)
theorem keeps_l0 (h0 : l0.length ≤ 5) (hl : l2.length ≤ 6) (hd : ∀ y ∈ l2, OkDel y) (h1 : sh.length ≤ l1.length) (h2 : sh.length ≤ 10) (hs : ∀ s ∈ sh, 0 ≤ s.f2 ∧ s.f2 ≤ 20) : ∀ (e g k : Nat), g + e = l0.length → e + 2050 ≤ k →
    wishbookref10_keeps.l0 k (f2s sh) g l0 l1 l2 = some ((List.range' g e).all fun j => keptF l1 (j : Nat) sh (comTo l2 l2.length))
  | 0, g, k + 1, hi, hk => by
    rw [wishbookref10_keeps.l0, if_neg (by omega)]
    rfl
  | e + 1, g, k + 1, hi, hk => by
    have ih := keeps_l0 h0 hl hd h1 h2 hs e (g + 1) k (by omega) (by omega)
    rw [wishbookref10_keeps.l0, if_pos (by omega), kept_f l0 l1 l2 sh (g : Nat) hl hd h1 h2 hs k (by omega), Option.bind_some, wrap_succ (by omega), List.range'_succ, List.all_cons]
    cases keptF l1 (g : Nat) sh (comTo l2 l2.length) with
    | false => rfl
    | true =>
      rw [if_pos rfl, Bool.true_and]
      exact ih
end
theorem comTo_cong {l2 l2' : List S57} (g d : Int) : ∀ n : Nat, (∀ i : Nat, i < n → (rd_T57 l2 i).f0 = (rd_T57 l2' i).f0 ∧ (rd_T57 l2 i).f1.f1 = (rd_T57 l2' i).f1.f1 ∧ (rd_T57 l2 i).f2.f0 = (rd_T57 l2' i).f2.f0) → comTo l2 n g d = comTo l2' n g d
  | 0, _ => rfl
  | n + 1, h => by
    obtain ⟨a, b, c⟩ := h n (by omega)
    rw [comTo, comTo, comTo_cong g d n (fun i hi => h i (by omega)), a, b, c]
theorem comTo_other {l2 l2' : List S57} (g d : Int) : ∀ n : Nat, (∀ i : Nat, i < n → rd_T57 l2 i = rd_T57 l2' i ∨ ((rd_T57 l2 i).f0 ≠ g ∧ (rd_T57 l2' i).f0 ≠ g)) → comTo l2 n g d = comTo l2' n g d
  | 0, _ => rfl
  | n + 1, h => by
    rw [comTo, comTo, comTo_other g d n (fun i hi => h i (by omega))]
    rcases h n (by omega) with e | ⟨a, b⟩
    · rw [e]
    · rw [if_neg (fun c => a c.1), if_neg (fun c => b c.1)]
theorem rd57_put (l2 : List S57) (i : Nat) (x : S57) (hi : i < l2.length) (j : Nat) : rd_T57 (l2.set i x) j = if j = i then x else rd_T57 l2 j := by
  unfold rd_T57
  rw [Int.toNat_natCast, List.getD_eq_getElem?_getD, List.getD_eq_getElem?_getD, List.getElem?_set]
  by_cases h : i = j
  · rw [if_pos h, if_pos hi, if_pos h.symm]; rfl
  · rw [if_neg h, if_neg (Ne.symm h)]
theorem keptF_F {l1 : List S47} {good : Int} {sh : List S49} {F F' : Int → Int → Int} (h : ∀ d, F good d = F' good d) : keptF l1 good sh F = keptF l1 good sh F' := by
  unfold keptF keptUpto
  congr 1
  funext d
  rw [h]
theorem mem_set57 {l2 : List S57} {i : Nat} {x : S57} {P : S57 → Prop} (h : ∀ y ∈ l2, P y) (hx : P x) : ∀ y ∈ l2.set i x, P y := fun y hy => by
  rcases List.mem_or_eq_of_mem_set hy with hy | rfl
  · exact h y hy
  · exact hx
section
variable {l0 : List Int} {l1 : List S47} {l2 : List S57}
theorem later_keeps (hb : okB l0 l1 l2 = true) {i n : Nat} (hi : i < l2.length) (hn : n < 100) (k : Nat) (hk : 2060 ≤ k) : wishbookref10_keeps.f k l0 l1 (l2.set i (laterD (rd_T57 l2 i) n)) (f2s (servF l0 l1 l2).2) = some (lateK l1 l2 (servF l0 l1 l2).2 i (n + 1)) := by
  have f := okB_facts hb
  have hsl := (servF_len l1 l2 f.2.1).2
  have x := okB_del hb hi
  unfold okDel at x
  have hd : ∀ y ∈ l2.set i (laterD (rd_T57 l2 i) n), OkDel y := mem_set57 (fun y hy => okDel_of f.2.1 (f.2.2.2.2.2.2.2 y hy)) (by
    unfold OkDel laterD
    dsimp only
    omega)
  have h := keeps_l0 l0 l1 (l2.set i (laterD (rd_T57 l2 i) n)) (servF l0 l1 l2).2 f.2.1 (by rw [List.length_set]; omega) hd (by omega) (by omega) (fun s hs => (servF_ok hb).2 s hs |>.2.2.1) l0.length 0 k (by omega) (by omega)
  refine Eq.trans h ?_
  congr 1
  rw [List.length_set, ← List.range_eq_range']
  have hsame : ∀ d, comTo (l2.set i (laterD (rd_T57 l2 i) n)) l2.length (rd_T57 l2 i).f0 d = comTo (moveF l2 i (n + 1 : Nat)) l2.length (rd_T57 l2 i).f0 d := fun d => comTo_cong _ _ _ fun j hj => by
    unfold moveF
    rw [rd57_put l2 i _ hi, rd57_put l2 i _ hi]
    by_cases e : j = i
    · rw [if_pos e, if_pos e]
      exact ⟨rfl, by show _ + _ + 1 = _ + _; omega, rfl⟩
    · rw [if_neg e, if_neg e]
      exact ⟨rfl, rfl, rfl⟩
  have hgood : ∀ g : Nat, (g : Int) ≠ (rd_T57 l2 i).f0 → keptF l1 g (servF l0 l1 l2).2 (comTo (l2.set i (laterD (rd_T57 l2 i) n)) l2.length) = true := fun g hg => by
    rw [keptF_F (F' := comTo l2 l2.length) (fun d => comTo_other _ _ _ fun j hj => by
      rw [rd57_put l2 i _ hi]
      by_cases e : j = i
      · rw [if_pos e, e]
        exact Or.inr ⟨fun h => hg h.symm, fun h => hg h.symm⟩
      · rw [if_neg e]
        exact Or.inl rfl)]
    exact serv_kept hb g
  unfold lateK
  rw [← keptF_F hsame, Bool.eq_iff_iff, List.all_eq_true]
  constructor
  · intro h
    have h2 := h (rd_T57 l2 i).f0.toNat (List.mem_range.2 (by omega))
    rw [Int.toNat_of_nonneg x.1.1] at h2
    exact h2
  · intro h g hg
    by_cases e : (g : Int) = (rd_T57 l2 i).f0
    · rw [e]; exact h
    · exact hgood g e
theorem lateK_zero (hb : okB l0 l1 l2 = true) {i : Nat} (hi : i < l2.length) : lateK l1 l2 (servF l0 l1 l2).2 i 0 = true := by
  unfold lateK
  rw [keptF_F (F' := comTo l2 l2.length) (fun d => comTo_cong _ _ _ fun j hj => by
    unfold moveF
    rw [rd57_put l2 i _ hi]
    by_cases e : j = i
    · rw [if_pos e, e]
      exact ⟨rfl, by show _ + _ = _; simp, rfl⟩
    · rw [if_neg e]
      exact ⟨rfl, rfl, rfl⟩)]
  exact serv_kept hb _
end
theorem Rl_late (K : Nat → Bool) : ∀ k n, Rl K k n = lateL K k (n + 1) n
  | 0, n => rfl
  | k + 1, n => by rw [Rl, lateL, Rl_late K k (n + 1)]
theorem tween_of (l2 : List S57) (a1 : Int) : wishbookref00_Tween.f a1 0 ((l2.length : Int) - 1) = some (decide (0 ≤ a1 ∧ a1 ≤ (l2.length : Int) - 1)) := by
  rw [Tween_f, Bool.decide_and]
def wishbookref10_Late.f (l0 : List Int) (l1 : List S47) (l2 : List S57) (a1 : Int) : Option (Int × Int) := lack_Late.f l0 l1 l2 a1
theorem wishbookref10_Late.calls (A0 : Option Addr) (c0 : Nat) (l0 : List Int) (A1 : Option Addr) (c1 : Nat) (l1 : List S47) (A2 : Option Addr) (c2 : Nat) (l2 : List S57) (a1 : Int) (r1 : Int) (r2 : Int) (w : World)
    (h0 : Kd.C (Kd.int .i64) w A0 l0.length l0) (hc0 : l0.length ≤ c0) (h1 : Kd.C k47 w A1 l1.length l1) (hc1 : l1.length ≤ c1) (h2 : Kd.C k57 w A2 l2.length l2) (hc2 : l2.length ≤ c2)
    (h : wishbookref10_Late.f l0 l1 l2 a1 = some (r1, r2)) :
    Calls Tryd.prog 25 #[.agg #[.slice A0 l0.length c0, .slice A1 l1.length c1, .slice A2 l2.length c2], .int .i64 a1] w fun e w' => e = .returned (.tuple #[.int .i64 r1, .int .i64 r2]) ∧ Below w.heap.size w w' := by
  unfold wishbookref10_Late.f lack_Late.f at h
  by_cases hf : Few l0 l1 l2
  case neg => rw [if_neg hf] at h; cases h
  rw [if_pos hf] at h
  have hwn : IntKind.i64.wrap ((l2.length : Int) - 1) = (l2.length : Int) - 1 := by
    have := hf.2.2
    rw [IntKind.wrap_i64]; omega
  have hask := asked_f l0 l1 l2 hf (decide (0 ≤ a1 ∧ a1 ≤ (l2.length : Int) - 1))
  cases hb : okB l0 l1 l2 with
  | false =>
    rw [hb] at h hask
    cases h
    exact rLate_dead A0 A1 A2 c0 c1 c2 l0 l1 l2 a1 w h0 hc0 h1 hc1 h2 hc2 hwn _ 100 (tween_of l2 a1) hask (by decide)
  | true =>
    rw [hb] at h hask
    rw [if_pos rfl] at h hask
    by_cases ha : 0 ≤ a1 ∧ a1 ≤ (l2.length : Int) - 1
    · rw [if_pos ha] at h
      rw [decide_eq_true ha, if_pos rfl] at hask
      have ht := tween_of l2 a1
      rw [decide_eq_true ha] at ht
      obtain ⟨i, rfl⟩ : ∃ n : Nat, a1 = n := ⟨a1.toNat, by omega⟩
      have hi : i < l2.length := by omega
      have f := okB_facts hb
      have x := okB_del hb hi
      unfold okDel at x
      have hr := rLate_live A0 A1 A2 c0 c1 c2 l0 l1 l2 i w h0 hc0 h1 hc1 h2 hc2 hwn 2100 (f2s (servF l0 l1 l2).2) (lateK l1 l2 (servF l0 l1 l2).2 i) ht hask (list_f l0 l1 l2 hf hb 2100 (by omega)) (by omega) (by omega) (by omega) (by omega) (fun n hn => by
        rw [Int.toNat_natCast]
        exact later_keeps hb hi hn 2100 (by omega))
      rw [Rl_late] at hr
      rw [Int.toNat_natCast, show (101 : Nat) = 100 + 1 from rfl, lateL, lateK_zero hb hi, if_pos rfl] at h
      cases h
      exact hr
    · rw [if_neg ha] at h
      cases h
      rw [decide_eq_false ha, if_neg (by decide)] at hask
      have ht := tween_of l2 a1
      rw [decide_eq_false ha] at ht
      exact rLate_dead A0 A1 A2 c0 c1 c2 l0 l1 l2 a1 w h0 hc0 h1 hc1 h2 hc2 hwn false 101 ht hask (by decide)
end Go.Proofs.YtegpepnmnlockaaDoor.PL
namespace Go.Proofs.YtegpepnmnlockaaDoor.PL
open Go.RowKit Go.Proofs.YtegpepnmnlockaaDoorW.PrintWords Go.Proofs.YtegpepnmnlockaaDoorW.PrintLast Go.Proofs.YtegpepnmnlockaaDoorW.PrintMore
set_option linter.unusedVariables false
set_option linter.unusedSimpArgs false
theorem rd57_erase (l2 : List S57) (i j : Nat) : rd_T57 (l2.eraseIdx i) j = if j < i then rd_T57 l2 j else rd_T57 l2 (j + 1 : Nat) := by
  unfold rd_T57
  rw [Int.toNat_natCast, Int.toNat_natCast, List.getD_eq_getElem?_getD, List.getD_eq_getElem?_getD, List.getD_eq_getElem?_getD, List.getElem?_eraseIdx]
  split <;> rfl
theorem erase_hi (l2 : List S57) {i : Nat} (hi : i < l2.length) (g d : Int) : ∀ m : Nat, i + m < l2.length → comTo (l2.set i (noneD (rd_T57 l2 i))) (i + m + 1) g d = comTo (l2.eraseIdx i) (i + m) g d
  | 0, _ => by
    have lo : comTo (l2.set i (noneD (rd_T57 l2 i))) i g d = comTo (l2.eraseIdx i) i g d := comTo_cong g d i fun j hj => by
      rw [rd57_put l2 i _ hi, if_neg (by omega), rd57_erase, if_pos hj]
      exact ⟨rfl, rfl, rfl⟩
    simp only [Nat.add_zero]
    rw [comTo, lo, rd57_put l2 i _ hi, if_pos rfl]
    have : (noneD (rd_T57 l2 i)).f2.f0 = 0 := rfl
    rw [this]
    split <;> omega
  | m + 1, hm => by
    have ih := erase_hi l2 hi g d m (by omega)
    rw [show i + (m + 1) + 1 = (i + m + 1) + 1 from rfl, comTo, ih, show i + (m + 1) = (i + m) + 1 from rfl, comTo, rd57_put l2 i _ hi, if_neg (show ¬ (i + m + 1 = i) by omega), rd57_erase, if_neg (show ¬ (i + m < i) by omega)]
theorem erase_all (l2 : List S57) {i : Nat} (hi : i < l2.length) (g d : Int) : comTo (l2.set i (noneD (rd_T57 l2 i))) l2.length g d = comTo (l2.eraseIdx i) (l2.length - 1) g d := by
  have h := erase_hi l2 hi g d (l2.length - 1 - i) (by omega)
  rw [show i + (l2.length - 1 - i) + 1 = l2.length by omega, show i + (l2.length - 1 - i) = l2.length - 1 by omega] at h
  exact h
theorem brokR_brokF (l1 : List S47) (sh : List S49) (F F' : Int → Int → Int) (h : ∀ g d, F g d = F' g d) : ∀ n : Nat, brokR (fun j => keptF l1 (rd_T47 l1 j).f1 (sh.take (j + 1)) F) (f2s sh) n = brokF l1 sh F' n
  | 0 => rfl
  | n + 1 => by
    rw [brokR, brokF, brokR_brokF l1 sh F F' h n, rd_f2s, keptF_F (F := F) (F' := F') (fun d => h _ d)]
def wishbookref10_Broken.f (l0 : List Int) (l1 : List S47) (l2 : List S57) (a1 : Int) : Option (List Int × Int) := lack_Broken.f l0 l1 l2 a1
theorem wishbookref10_Broken.calls (A0 : Option Addr) (c0 : Nat) (l0 : List Int) (A1 : Option Addr) (c1 : Nat) (l1 : List S47) (A2 : Option Addr) (c2 : Nat) (l2 : List S57) (a1 : Int) (r1 : List Int) (r2 : Int) (w : World)
    (h0 : Kd.C (Kd.int .i64) w A0 l0.length l0) (hc0 : l0.length ≤ c0) (h1 : Kd.C k47 w A1 l1.length l1) (hc1 : l1.length ≤ c1) (h2 : Kd.C k57 w A2 l2.length l2) (hc2 : l2.length ≤ c2)
    (h : wishbookref10_Broken.f l0 l1 l2 a1 = some (r1, r2)) :
    Calls Tryd.prog 27 #[.agg #[.slice A0 l0.length c0, .slice A1 l1.length c1, .slice A2 l2.length c2], .int .i64 a1] w fun e w' => ∃ v0_ : Value, e = .returned (.tuple #[v0_, .int .i64 r2]) ∧ Kd.R (Kd.int .i64) 3 w' w.heap.size (fun _ => True) v0_ r1 ∧ Below w.heap.size w w' := by
  unfold wishbookref10_Broken.f lack_Broken.f at h
  by_cases hf : Few l0 l1 l2
  case neg => rw [if_neg hf] at h; cases h
  rw [if_pos hf] at h
  have hwn : IntKind.i64.wrap ((l2.length : Int) - 1) = (l2.length : Int) - 1 := by
    have := hf.2.2
    rw [IntKind.wrap_i64]; omega
  have hask := asked_f l0 l1 l2 hf (decide (0 ≤ a1 ∧ a1 ≤ (l2.length : Int) - 1))
  cases hb : okB l0 l1 l2 with
  | false =>
    rw [hb] at h hask
    cases h
    refine (rBroken_dead A0 A1 A2 c0 c1 c2 l0 l1 l2 a1 w h0 hc0 h1 hc1 h2 hc2 hwn _ 100 (tween_of l2 a1) hask (by decide)).mono ?_
    rintro e w' ⟨rfl, hb'⟩
    exact ⟨_, rfl, Kd.R_nil _ _ _ _ _, hb'⟩
  | true =>
    rw [hb] at h hask
    rw [if_pos rfl] at h hask
    by_cases ha : 0 ≤ a1 ∧ a1 ≤ (l2.length : Int) - 1
    · rw [if_pos ha] at h
      rw [decide_eq_true ha, if_pos rfl] at hask
      have ht := tween_of l2 a1
      rw [decide_eq_true ha] at ht
      obtain ⟨i, rfl⟩ : ∃ n : Nat, a1 = n := ⟨a1.toNat, by omega⟩
      have hi : i < l2.length := by omega
      have f := okB_facts hb
      have hsl := (servF_len l1 l2 f.2.1).2
      have x := okB_del hb hi
      unfold okDel at x
      have hd : ∀ y ∈ l2.set i (noneD (rd_T57 l2 i)), OkDel y := mem_set57 (fun y hy => okDel_of f.2.1 (f.2.2.2.2.2.2.2 y hy)) (by
        unfold OkDel noneD
        dsimp only
        omega)
      have hr := rBroken_live A0 A1 A2 c0 c1 c2 l0 l1 l2 i w h0 hc0 h1 hc1 h2 hc2 hwn 2100 (f2s (servF l0 l1 l2).2) (fun j => keptF l1 (rd_T47 l1 j).f1 ((servF l0 l1 l2).2.take (j + 1)) (comTo (l2.set i (noneD (rd_T57 l2 i))) l2.length)) ht hask (list_f l0 l1 l2 hf hb 2100 (by omega)) (by omega) (by omega) (by omega) (by rw [f2s_len]; omega) (by rw [f2s_len]; omega) (fun n hn => by
        rw [f2s_len] at hn
        rw [Int.toNat_natCast, show (f2s (servF l0 l1 l2).2).take (n + 1) = f2s ((servF l0 l1 l2).2.take (n + 1)) from (List.map_take ..).symm]
        have hk := kept_f l0 l1 (l2.set i (noneD (rd_T57 l2 i))) ((servF l0 l1 l2).2.take (n + 1)) (rd_T47 l1 n).f1 (by rw [List.length_set]; omega) hd (by rw [List.length_take]; omega) (by rw [List.length_take]; omega) (fun s hs => (servF_ok hb).2 s (List.mem_of_mem_take hs) |>.2.2.1) 2100 (by omega)
        rw [List.length_set] at hk
        exact hk)
      rw [brokR_brokF l1 (servF l0 l1 l2).2 _ (comTo (l2.eraseIdx i) (l2.length - 1)) (fun g d => erase_all l2 hi g d), f2s_len, hsl] at hr
      rw [Int.toNat_natCast] at h
      cases h
      exact hr
    · rw [if_neg ha] at h
      cases h
      rw [decide_eq_false ha, if_neg (by decide)] at hask
      have ht := tween_of l2 a1
      rw [decide_eq_false ha] at ht
      refine (rBroken_dead A0 A1 A2 c0 c1 c2 l0 l1 l2 a1 w h0 hc0 h1 hc1 h2 hc2 hwn false 101 ht hask (by decide)).mono ?_
      rintro e w' ⟨rfl, hb'⟩
      exact ⟨_, rfl, Kd.R_nil _ _ _ _ _, hb'⟩
end Go.Proofs.YtegpepnmnlockaaDoor.PL
namespace Go.Proofs.YtegpepnmnlockaaDoor.PL
open Go.RowKit Go.Proofs.YtegpepnmnlockaaDoorW.PrintWords Go.Proofs.YtegpepnmnlockaaDoorW.PrintLast Go.Proofs.YtegpepnmnlockaaDoorW.PrintMore
attribute [local go_sem] max2_int min2_int max_two min_two max_three min_three max_four min_four
set_option linter.unusedVariables false
set_option linter.unusedSimpArgs false
def wishbooklaw10_LackLates.j0 : Nat → Int → Bool → List Int → List (S47) → List (S57) → Option (Bool)
  | 0, _, _, _, _, _ => none
  | k + 1, x1, x30, x217000, x217001, x217002 => if x30 = true then (some false) else ((lack_Broken.f x217000 x217001 x217002 x1).bind fun bt221 => ((wishbookref10_Broken.f x217000 x217001 x217002 x1).bind fun bt225 => ((wishbookref00_Match.f k bt221.1 bt225.1).bind fun t229 => (if t229 = true then (if bt221.2 = bt225.2 then ((wishbooklaw10_listed.f).bind fun t230 => (some t230)) else (some false)) else (some false)))))
def wishbooklaw10_LackLates.f (k : Nat) (l0_0 : List Int) (l0_1 : List (S47)) (l0_2 : List (S57)) (a1 : Int) : Option (Bool) := (lack_Late.f l0_0 l0_1 l0_2 a1).bind fun bt217 => ((wishbookref10_Late.f l0_0 l0_1 l0_2 a1).bind fun bt219 => (if bt217.1 = bt219.1 then (wishbooklaw10_LackLates.j0 k a1 (bt217.2 != bt219.2) l0_0 l0_1 l0_2) else (wishbooklaw10_LackLates.j0 k a1 true l0_0 l0_1 l0_2)))
theorem wishbooklaw10_LackLates.mono_l : ∀ k, (∀ y0 y1 y2 y3 y4, LeO (wishbooklaw10_LackLates.j0 k y0 y1 y2 y3 y4) (wishbooklaw10_LackLates.j0 (k + 1) y0 y1 y2 y3 y4))
  | 0 => fun _ _ _ _ _ r h => by simp [wishbooklaw10_LackLates.j0] at h
  | k + 1 => by
    have ih0 := wishbooklaw10_LackLates.mono_l k
    · intro y0 y1 y2 y3 y4
      unfold wishbooklaw10_LackLates.j0
      repeat' first
      | (with_reducible exact ih0 _ _ _ _ _)
      | (with_reducible exact wishbookref00_Match.mono _ _ _)
      | (with_reducible exact LeO.refl _)
      | (with_reducible exact LeO.none _)
      | (with_reducible refine LeO.ite ?_ ?_)
      | (with_reducible refine LeO.bind ?_ (fun _ => ?_))
      | exact ih0 _ _ _ _ _
      | exact wishbookref00_Match.mono _ _ _
      | exact LeO.none _
      | refine LeO.ite ?_ ?_
      | refine LeO.bind ?_ (fun _ => ?_)
theorem wishbooklaw10_LackLates.mono : ∀ a0 a1 a2 a3 k, LeO (wishbooklaw10_LackLates.f k a0 a1 a2 a3) (wishbooklaw10_LackLates.f (k + 1) a0 a1 a2 a3) := by
  intro a0 a1 a2 a3 k
  have ih0 := wishbooklaw10_LackLates.mono_l k
  unfold wishbooklaw10_LackLates.f
  repeat' first
      | (with_reducible exact ih0 _ _ _ _ _)
      | (with_reducible exact wishbookref00_Match.mono _ _ _)
      | (with_reducible exact LeO.refl _)
      | (with_reducible exact LeO.none _)
      | (with_reducible refine LeO.ite ?_ ?_)
      | (with_reducible refine LeO.bind ?_ (fun _ => ?_))
      | exact ih0 _ _ _ _ _
      | exact wishbookref00_Match.mono _ _ _
      | exact LeO.none _
      | refine LeO.ite ?_ ?_
      | refine LeO.bind ?_ (fun _ => ?_)
set_option maxHeartbeats 8000000 in
set_option maxRecDepth 100000 in
theorem wishbooklaw10_LackLates.calls (k : Nat) (A0_0 : Option Addr) (c0_0 : Nat) (l0_0 : List Int) (A0_1 : Option Addr) (c0_1 : Nat) (l0_1 : List (S47)) (A0_2 : Option Addr) (c0_2 : Nat) (l0_2 : List (S57)) (a1 : Int) (r : Bool) (w : World) (hr0_0 : Kd.C (Kd.int .i64) w A0_0 l0_0.length l0_0) (hc0_0 : l0_0.length ≤ c0_0) (hr0_1 : Kd.C k47 w A0_1 l0_1.length l0_1) (hc0_1 : l0_1.length ≤ c0_1) (hr0_2 : Kd.C k57 w A0_2 l0_2.length l0_2) (hc0_2 : l0_2.length ≤ c0_2) (hfa : Fates w) (h : wishbooklaw10_LackLates.f k l0_0 l0_1 l0_2 a1 = some r) :
    Calls Tryd.prog 5 #[.agg #[.slice A0_0 l0_0.length c0_0, .slice A0_1 l0_1.length c0_1, .slice A0_2 l0_2.length c0_2], .int .i64 a1] w fun e w' => e = .returned (.bool r) ∧ Below w.heap.size w w' := by
  have HFA := Aside0.mk hfa
  clear hfa
  have hu26 := Tryd.underlying26
  have HR0_0 := Aside0.mk hr0_0
  have HC0_0 := Aside0.mk hc0_0
  clear hr0_0 hc0_0
  have HR0_1 := Aside0.mk hr0_1
  have HC0_1 := Aside0.mk hc0_1
  clear hr0_1 hc0_1
  have HR0_2 := Aside0.mk hr0_2
  have HC0_2 := Aside0.mk hc0_2
  clear hr0_2 hc0_2
  have HB := Aside0.mk (Below.refl w.heap.size w)
  have H : ((lack_Late.f l0_0 l0_1 l0_2 a1).bind fun bt217 => ((wishbookref10_Late.f l0_0 l0_1 l0_2 a1).bind fun bt219 => (if bt217.1 = bt219.1 then (wishbooklaw10_LackLates.j0 k a1 (bt217.2 != bt219.2) l0_0 l0_1 l0_2) else (wishbooklaw10_LackLates.j0 k a1 true l0_0 l0_1 l0_2)))) = some r := h
  clear h
  replace H := Option.bind_eq_some_iff.mp H
  obtain ⟨⟨t217, t218⟩, A30, H⟩ := H
  replace H : ((wishbookref10_Late.f l0_0 l0_1 l0_2 a1).bind fun bt219 => (if t217 = bt219.1 then (wishbooklaw10_LackLates.j0 k a1 (t218 != bt219.2) l0_0 l0_1 l0_2) else (wishbooklaw10_LackLates.j0 k a1 true l0_0 l0_1 l0_2))) = some r := H
  have A3 := Aside0.mk A30
  clear A30
  replace H := Option.bind_eq_some_iff.mp H
  obtain ⟨⟨t219, t220⟩, A40, H⟩ := H
  replace H : (if t217 = t219 then (wishbooklaw10_LackLates.j0 k a1 (t218 != t220) l0_0 l0_1 l0_2) else (wishbooklaw10_LackLates.j0 k a1 true l0_0 l0_1 l0_2)) = some r := H
  have A4 := Aside0.mk A40
  clear A40
  have HC5 := Aside0.mk H
  clear H
  go_enter Tryd.func5, Tryd.ntmps5
  go_upto_region 3 with (first | ((with_reducible refine gate_dst (N := 2) rfl ?_); refine box_event ?hg (N := 2) ?hd (cs := #[.slice A0_0 l0_0.length c0_0, .slice A0_1 l0_1.length c0_1, .slice A0_2 l0_2.length c0_2]) (t := 26) ?hr ?_; (case hd => rfl); (case hg => rfl); (case hr => first | (go_simp; done) | (go_simp; rfl)); intro gb216 hg w6 hbox hb; have n0_ := Aside0.mk (below_step (by repeat (first | (with_reducible first | exact HB.out | apply below_alloc | apply pw_below_drewN | apply below_drew1) | exact HB.out)) hb); have n1_ := Aside0.mk (hbox); have n2_ := Aside0.mk ((by rw [hg]; exact (below_size (by repeat (first | (with_reducible first | exact HB.out | apply below_alloc | apply pw_below_drewN | apply below_drew1) | exact HB.out))) : w.heap.size ≤ gb216)); have n3_ := Aside0.mk ((by rw [hg]; exact (below_size (by repeat (first | (with_reducible first | exact HB.out | apply below_alloc | apply pw_below_drewN | apply below_drew1) | exact HB.out))) : w.heap.size ≤ gb216)); clear HB; have HB := n0_; have BK216 := n1_; have GW216 := n2_; have GE216 := n3_; clear n0_ n1_ n2_ n3_; clear hb hbox hg; have hcz7_0 : w6.cell? ⟨gb216, 0, none⟩ = some (.slice A0_0 l0_0.length c0_0) := (blk_cell BK216.out 0).trans rfl; have hcz7_1 : w6.cell? ⟨gb216, 1, none⟩ = some (.slice A0_1 l0_1.length c0_1) := (blk_cell BK216.out 1).trans rfl; have hcz7_2 : w6.cell? ⟨gb216, 2, none⟩ = some (.slice A0_2 l0_2.length c0_2) := (blk_cell BK216.out 2).trans rfl; have hfz7_0 := blk_frozen BK216.out 0; have hfz7_1 := blk_frozen BK216.out 1; have hfz7_2 := blk_frozen BK216.out 2) | ((with_reducible refine gate_callee (f := 24) rfl ?_); refine goesL_ (some 14) rfl rfl Tryd.func24 (by kernel_rfl) rfl #[.agg #[.slice A0_0 l0_0.length c0_0, .slice A0_1 l0_1.length c0_1, .slice A0_2 l0_2.length c0_2], .int .i64 a1] rfl (by (try simp only [List.map_toArray, List.map_cons, List.map_nil]); first | done | rfl | (simp only [List.length_drop, List.length_take]; rfl)) ?_; (with_reducible refine (lack_Late.calls _ _ l0_0 _ _ l0_1 _ _ l0_2 a1 t217 t218 _ ?side1 ?side2 ?side3 ?side4 ?side5 ?side6 ?sideF A3.out).mono ?_); (case side1 => repeat (first | exact (Kd.C_below HR0_0.out HB.out) | (with_reducible refine Kd.C_alloc ?_ _) | (with_reducible refine Kd.C_drewN ?_ _) | (with_reducible refine Kd.C_drew ?_))); (case side2 => exact HC0_0.out); (case side3 => repeat (first | exact (Kd.C_below HR0_1.out HB.out) | (with_reducible refine Kd.C_alloc ?_ _) | (with_reducible refine Kd.C_drewN ?_ _) | (with_reducible refine Kd.C_drew ?_))); (case side4 => exact HC0_1.out); (case side5 => repeat (first | exact (Kd.C_below HR0_2.out HB.out) | (with_reducible refine Kd.C_alloc ?_ _) | (with_reducible refine Kd.C_drewN ?_ _) | (with_reducible refine Kd.C_drew ?_))); (case side6 => exact HC0_2.out); (case sideF => exact Fates.below HFA.out (by repeat (first | (with_reducible first | exact HB.out | apply below_alloc | apply pw_below_drewN | apply below_drew1 | refine below_set ?_ GE216.out) | exact HB.out))); rintro e w8 ⟨rfl, hb⟩; refine ⟨_, rfl, ?_⟩; have n0_ := Aside0.mk (blk_below (g := gb216) (o := .cells #[.slice A0_0 l0_0.length c0_0, .slice A0_1 l0_1.length c0_1, .slice A0_2 l0_2.length c0_2] 26 (0, 0)) (by (with_reducible repeat (first | refine blk_drewN ?_ _ | refine blk_drew ?_ | refine blk_alloc ?_ _)); exact BK216.out) hb); have n1_ := Aside0.mk (below_step (by repeat (first | (with_reducible first | exact HB.out | apply below_alloc | apply pw_below_drewN | apply below_drew1 | refine below_set ?_ GE216.out) | exact HB.out)) hb); clear BK216; clear HB; have BK216 := n0_; have HB := n1_; clear n0_ n1_; (try clear hb); (try clear hb2); (try clear hk); (try clear hi); have hcz9_0 : w8.cell? ⟨gb216, 0, none⟩ = some (.slice A0_0 l0_0.length c0_0) := (blk_cell BK216.out 0).trans rfl; have hcz9_1 : w8.cell? ⟨gb216, 1, none⟩ = some (.slice A0_1 l0_1.length c0_1) := (blk_cell BK216.out 1).trans rfl; have hcz9_2 : w8.cell? ⟨gb216, 2, none⟩ = some (.slice A0_2 l0_2.length c0_2) := (blk_cell BK216.out 2).trans rfl; have hfz9_0 := blk_frozen BK216.out 0; have hfz9_1 := blk_frozen BK216.out 1; have hfz9_2 := blk_frozen BK216.out 2) | ((with_reducible refine gate_callee (f := 25) rfl ?_); refine goesL_ (some 20) rfl rfl Tryd.func25 (by kernel_rfl) rfl #[.agg #[.slice A0_0 l0_0.length c0_0, .slice A0_1 l0_1.length c0_1, .slice A0_2 l0_2.length c0_2], .int .i64 a1] rfl (by (try simp only [List.map_toArray, List.map_cons, List.map_nil]); first | done | rfl | (simp only [List.length_drop, List.length_take]; rfl)) ?_; (with_reducible refine (wishbookref10_Late.calls _ _ l0_0 _ _ l0_1 _ _ l0_2 a1 t219 t220 _ ?side1 ?side2 ?side3 ?side4 ?side5 ?side6 A4.out).mono ?_); (case side1 => repeat (first | exact (Kd.C_below HR0_0.out HB.out) | (with_reducible refine Kd.C_alloc ?_ _) | (with_reducible refine Kd.C_drewN ?_ _) | (with_reducible refine Kd.C_drew ?_))); (case side2 => exact HC0_0.out); (case side3 => repeat (first | exact (Kd.C_below HR0_1.out HB.out) | (with_reducible refine Kd.C_alloc ?_ _) | (with_reducible refine Kd.C_drewN ?_ _) | (with_reducible refine Kd.C_drew ?_))); (case side4 => exact HC0_1.out); (case side5 => repeat (first | exact (Kd.C_below HR0_2.out HB.out) | (with_reducible refine Kd.C_alloc ?_ _) | (with_reducible refine Kd.C_drewN ?_ _) | (with_reducible refine Kd.C_drew ?_))); (case side6 => exact HC0_2.out); rintro e w10 ⟨rfl, hb⟩; refine ⟨_, rfl, ?_⟩; have n0_ := Aside0.mk (blk_below (g := gb216) (o := .cells #[.slice A0_0 l0_0.length c0_0, .slice A0_1 l0_1.length c0_1, .slice A0_2 l0_2.length c0_2] 26 (0, 0)) (by (with_reducible repeat (first | refine blk_drewN ?_ _ | refine blk_drew ?_ | refine blk_alloc ?_ _)); exact BK216.out) hb); have n1_ := Aside0.mk (below_step (by repeat (first | (with_reducible first | exact HB.out | apply below_alloc | apply pw_below_drewN | apply below_drew1 | refine below_set ?_ GE216.out) | exact HB.out)) hb); clear BK216; clear HB; have BK216 := n0_; have HB := n1_; clear n0_ n1_; (try clear hb); (try clear hb2); (try clear hk); (try clear hi)))
  (try simp only [Act.put, List.setIfInBounds_toArray, List.set_cons_zero, List.set_cons_succ])
  go_cut [30] (fun v30 wc => ∃ (kq : Nat) (x30_4 : Bool), v30 = .bool x30_4 ∧ Aside0 (wishbooklaw10_LackLates.j0 kq a1 x30_4 l0_0 l0_1 l0_2 = some r) ∧ Aside0 (kq ≤ k) ∧ Aside0 (wc.heap[gb216]? = some (.cells #[(.slice A0_0 l0_0.length c0_0), (.slice A0_1 l0_1.length c0_1), (.slice A0_2 l0_2.length c0_2)] 26 (0, 0))) ∧ Aside0 (Below w.heap.size w wc))
  case first =>
    have H := HC5.out
    clear HC5
    by_cases c11 : t217 = t219
    · rw [if_pos c11] at H
      have c11b0 : (t217 == t219) = true := beq_iff_eq.mpr c11
      have c11b1 : (t217 != t219) = false := bne_eq_false_iff_eq.mpr c11
      clear c11
      (first | rw [c11b0] | (simp only [i64_w, i32_w]; rw [c11b0]) | skip)
      have H' := Aside0.mk H
      clear H
      go_wp2
      go_meet
      case rel => exact ⟨_, ((t218 != t220)), (by first | rfl | (simp; done) | (simp [*]; done)), H', ⟨by first | omega | exact Nat.le_refl _⟩, ⟨by (with_reducible repeat (first | refine blk_drewN ?_ _ | refine blk_drew ?_ | refine blk_alloc ?_ _)); exact BK216.out⟩, ⟨by repeat (first | (with_reducible first | exact HB.out | apply below_alloc | apply pw_below_drewN | apply below_drew1 | refine below_set ?_ GE216.out) | exact HB.out)⟩⟩
    · rw [if_neg c11] at H
      have c11b0 : (t217 == t219) = false := beq_eq_false_iff_ne.mpr c11
      have c11b1 : (t217 != t219) = true := bne_iff_ne.mpr c11
      (first | rw [c11b0] | (simp only [i64_w, i32_w]; rw [c11b0]) | skip)
      have H' := Aside0.mk H
      clear H
      go_wp2
      go_meet
      case rel => exact ⟨_, (true), (by first | rfl | (simp; done) | (simp [*]; done)), H', ⟨by first | omega | exact Nat.le_refl _⟩, ⟨by (with_reducible repeat (first | refine blk_drewN ?_ _ | refine blk_drew ?_ | refine blk_alloc ?_ _)); exact BK216.out⟩, ⟨by repeat (first | (with_reducible first | exact HB.out | apply below_alloc | apply pw_below_drewN | apply below_drew1 | refine below_set ?_ GE216.out) | exact HB.out)⟩⟩
  case rest =>
    clear HC5
    try clear c1
    try clear c2
    try clear p2
    try clear c5
    try clear c11
    try clear c11b0
    try clear c11b1
    try clear hcz7_0
    try clear hcz7_1
    try clear hcz7_2
    try clear hcz9_0
    try clear hcz9_1
    try clear hcz9_2
    try clear hfz7_0
    try clear hfz7_1
    try clear hfz7_2
    try clear hfz9_0
    try clear hfz9_1
    try clear hfz9_2
    obtain ⟨kq, x30_4, rfl, HA, HJ4, BK216, HB⟩ := hcut
    cases kq with
    | zero => exact absurd HA.out (by simp [wishbooklaw10_LackLates.j0])
    | succ kj4 =>
      have H := HA.out
      clear HA
      simp only [wishbooklaw10_LackLates.j0] at H
      by_cases c12 : x30_4 = true
      · subst c12
        have H1 : (some false) = some r := by rw [if_pos rfl] at H; exact H
        clear H
        have H := H1
        clear H1
        obtain rfl := Option.some.inj H
        go_wp2
        go_ret
        exact ⟨by first | rfl | (simp [errW_none, errW_some] <;> rfl) | (simp [*, errW_none, errW_some] <;> rfl), by repeat (first | (with_reducible first | exact HB.out | apply below_alloc | apply pw_below_drewN | apply below_drew1 | refine below_set ?_ GE216.out) | exact HB.out)⟩
      · replace c12 := Bool.eq_false_iff.mpr c12
        subst c12
        have H1 : ((lack_Broken.f l0_0 l0_1 l0_2 a1).bind fun bt221 => ((wishbookref10_Broken.f l0_0 l0_1 l0_2 a1).bind fun bt225 => ((wishbookref00_Match.f kj4 bt221.1 bt225.1).bind fun t229 => (if t229 = true then (if bt221.2 = bt225.2 then ((wishbooklaw10_listed.f).bind fun t230 => (some t230)) else (some false)) else (some false))))) = some r := by rw [if_neg (show ¬ (false = true) by decide)] at H; exact H
        clear H
        have H := H1
        clear H1
        replace H := Option.bind_eq_some_iff.mp H
        obtain ⟨⟨t221, t224⟩, A130, H⟩ := H
        replace H : ((wishbookref10_Broken.f l0_0 l0_1 l0_2 a1).bind fun bt225 => ((wishbookref00_Match.f kj4 t221 bt225.1).bind fun t229 => (if t229 = true then (if t224 = bt225.2 then ((wishbooklaw10_listed.f).bind fun t230 => (some t230)) else (some false)) else (some false)))) = some r := H
        have A13 := Aside0.mk A130
        clear A130
        replace H := Option.bind_eq_some_iff.mp H
        obtain ⟨⟨t225, t228⟩, A140, H⟩ := H
        replace H : ((wishbookref00_Match.f kj4 t221 t225).bind fun t229 => (if t229 = true then (if t224 = t228 then ((wishbooklaw10_listed.f).bind fun t230 => (some t230)) else (some false)) else (some false))) = some r := H
        have A14 := Aside0.mk A140
        clear A140
        replace H := Option.bind_eq_some_iff.mp H
        obtain ⟨t229, A150, H⟩ := H
        replace H : (if t229 = true then (if t224 = t228 then ((wishbooklaw10_listed.f).bind fun t230 => (some t230)) else (some false)) else (some false)) = some r := H
        have A15 := Aside0.mk A150
        clear A150
        by_cases c16 : t229 = true
        · subst c16
          have H1 : (if t224 = t228 then ((wishbooklaw10_listed.f).bind fun t230 => (some t230)) else (some false)) = some r := by rw [if_pos rfl] at H; exact H
          clear H
          have H := H1
          clear H1
          by_cases c17 : t224 = t228
          · rw [if_pos c17] at H
            have c17b0 : (t224 == t228) = true := beq_iff_eq.mpr c17
            have c17b1 : (t224 != t228) = false := bne_eq_false_iff_eq.mpr c17
            clear c17
            replace H := Option.bind_eq_some_iff.mp H
            obtain ⟨t230, A180, H⟩ := H
            replace H : (some t230) = some r := H
            have A18 := Aside0.mk A180
            clear A180
            obtain rfl := Option.some.inj H
            have hcz19_0 : wc.cell? ⟨gb216, 0, none⟩ = some (.slice A0_0 l0_0.length c0_0) := (blk_cell BK216.out 0).trans rfl
            have hcz19_1 : wc.cell? ⟨gb216, 1, none⟩ = some (.slice A0_1 l0_1.length c0_1) := (blk_cell BK216.out 1).trans rfl
            have hcz19_2 : wc.cell? ⟨gb216, 2, none⟩ = some (.slice A0_2 l0_2.length c0_2) := (blk_cell BK216.out 2).trans rfl
            have hfz19_0 := blk_frozen BK216.out 0
            have hfz19_1 := blk_frozen BK216.out 1
            have hfz19_2 := blk_frozen BK216.out 2
            go_wp2_with (first | ((with_reducible refine gate_callee (f := 26) rfl ?_); refine goesL_ (some 34) rfl rfl Tryd.func26 (by kernel_rfl) rfl #[.agg #[.slice A0_0 l0_0.length c0_0, .slice A0_1 l0_1.length c0_1, .slice A0_2 l0_2.length c0_2], .int .i64 a1] rfl (by (try simp only [List.map_toArray, List.map_cons, List.map_nil]); first | done | rfl | (simp only [List.length_drop, List.length_take]; rfl)) ?_; (with_reducible refine (lack_Broken.calls _ _ l0_0 _ _ l0_1 _ _ l0_2 a1 t221 t224 _ ?side1 ?side2 ?side3 ?side4 ?side5 ?side6 ?sideF A13.out).mono ?_); (case side1 => repeat (first | exact (Kd.C_below HR0_0.out HB.out) | (with_reducible refine Kd.C_alloc ?_ _) | (with_reducible refine Kd.C_drewN ?_ _) | (with_reducible refine Kd.C_drew ?_))); (case side2 => exact HC0_0.out); (case side3 => repeat (first | exact (Kd.C_below HR0_1.out HB.out) | (with_reducible refine Kd.C_alloc ?_ _) | (with_reducible refine Kd.C_drewN ?_ _) | (with_reducible refine Kd.C_drew ?_))); (case side4 => exact HC0_1.out); (case side5 => repeat (first | exact (Kd.C_below HR0_2.out HB.out) | (with_reducible refine Kd.C_alloc ?_ _) | (with_reducible refine Kd.C_drewN ?_ _) | (with_reducible refine Kd.C_drew ?_))); (case side6 => exact HC0_2.out); (case sideF => exact Fates.below HFA.out (by repeat (first | (with_reducible first | exact HB.out | apply below_alloc | apply pw_below_drewN | apply below_drew1 | refine below_set ?_ GE216.out) | exact HB.out))); rintro e w20 ⟨v222, rfl, ho0, hb⟩; refine ⟨_, rfl, ?_⟩; have n0_ := Aside0.mk (Kd.V_lower (Kd.V_mono (ok' := fun k_ => k_ ≠ gb216) ho0 (fun k_ hk_ => (Kd.freshB (g := gb216) (o := .cells #[.slice A0_0 l0_0.length c0_0, .slice A0_1 l0_1.length c0_1, .slice A0_2 l0_2.length c0_2] 26 (0, 0)) (by (with_reducible repeat (first | refine blk_drewN ?_ _ | refine blk_drew ?_ | refine blk_alloc ?_ _)); exact BK216.out) k_ hk_))) (below_size (by repeat (first | (with_reducible first | exact HB.out | apply below_alloc | apply pw_below_drewN | apply below_drew1 | refine below_set ?_ GE216.out) | exact HB.out)))); have n1_ := Aside0.mk (blk_below (g := gb216) (o := .cells #[.slice A0_0 l0_0.length c0_0, .slice A0_1 l0_1.length c0_1, .slice A0_2 l0_2.length c0_2] 26 (0, 0)) (by (with_reducible repeat (first | refine blk_drewN ?_ _ | refine blk_drew ?_ | refine blk_alloc ?_ _)); exact BK216.out) hb); have n2_ := Aside0.mk (below_step (by repeat (first | (with_reducible first | exact HB.out | apply below_alloc | apply pw_below_drewN | apply below_drew1 | refine below_set ?_ GE216.out) | exact HB.out)) hb); clear BK216; clear HB; have HO223 := n0_; have BK216 := n1_; have HB := n2_; clear n0_ n1_ n2_; (try clear hb); (try clear hb2); (try clear hk); (try clear hi); (try clear ho0); have hcz21_0 : w20.cell? ⟨gb216, 0, none⟩ = some (.slice A0_0 l0_0.length c0_0) := (blk_cell BK216.out 0).trans rfl; have hcz21_1 : w20.cell? ⟨gb216, 1, none⟩ = some (.slice A0_1 l0_1.length c0_1) := (blk_cell BK216.out 1).trans rfl; have hcz21_2 : w20.cell? ⟨gb216, 2, none⟩ = some (.slice A0_2 l0_2.length c0_2) := (blk_cell BK216.out 2).trans rfl; have hfz21_0 := blk_frozen BK216.out 0; have hfz21_1 := blk_frozen BK216.out 1; have hfz21_2 := blk_frozen BK216.out 2) | ((with_reducible refine gate_callee (f := 27) rfl ?_); refine goesL_ (some 40) rfl rfl Tryd.func27 (by kernel_rfl) rfl #[.agg #[.slice A0_0 l0_0.length c0_0, .slice A0_1 l0_1.length c0_1, .slice A0_2 l0_2.length c0_2], .int .i64 a1] rfl (by (try simp only [List.map_toArray, List.map_cons, List.map_nil]); first | done | rfl | (simp only [List.length_drop, List.length_take]; rfl)) ?_; (with_reducible refine (wishbookref10_Broken.calls _ _ l0_0 _ _ l0_1 _ _ l0_2 a1 t225 t228 _ ?side1 ?side2 ?side3 ?side4 ?side5 ?side6 A14.out).mono ?_); (case side1 => repeat (first | exact (Kd.C_below HR0_0.out HB.out) | (with_reducible refine Kd.C_alloc ?_ _) | (with_reducible refine Kd.C_drewN ?_ _) | (with_reducible refine Kd.C_drew ?_))); (case side2 => exact HC0_0.out); (case side3 => repeat (first | exact (Kd.C_below HR0_1.out HB.out) | (with_reducible refine Kd.C_alloc ?_ _) | (with_reducible refine Kd.C_drewN ?_ _) | (with_reducible refine Kd.C_drew ?_))); (case side4 => exact HC0_1.out); (case side5 => repeat (first | exact (Kd.C_below HR0_2.out HB.out) | (with_reducible refine Kd.C_alloc ?_ _) | (with_reducible refine Kd.C_drewN ?_ _) | (with_reducible refine Kd.C_drew ?_))); (case side6 => exact HC0_2.out); rintro e w22 ⟨v226, rfl, ho0, hb⟩; refine ⟨_, rfl, ?_⟩; have n0_ := Aside0.mk (Kd.V_elder' (by (with_reducible repeat (first | apply Kd.V_alloc | apply Kd.V_drewN | apply Kd.V_drew)); exact HO223.out) (Kd.R_base ho0) hb); have n1_ := Aside0.mk (Kd.R_lower ho0 (below_size (by repeat (first | (with_reducible first | exact HB.out | apply below_alloc | apply pw_below_drewN | apply below_drew1 | refine below_set ?_ GE216.out) | exact HB.out)))); have n2_ := Aside0.mk (blk_below (g := gb216) (o := .cells #[.slice A0_0 l0_0.length c0_0, .slice A0_1 l0_1.length c0_1, .slice A0_2 l0_2.length c0_2] 26 (0, 0)) (by (with_reducible repeat (first | refine blk_drewN ?_ _ | refine blk_drew ?_ | refine blk_alloc ?_ _)); exact BK216.out) hb); have n3_ := Aside0.mk (below_step (by repeat (first | (with_reducible first | exact HB.out | apply below_alloc | apply pw_below_drewN | apply below_drew1 | refine below_set ?_ GE216.out) | exact HB.out)) hb); clear HO223; clear BK216; clear HB; have HO223 := n0_; have HO227 := n1_; have BK216 := n2_; have HB := n3_; clear n0_ n1_ n2_ n3_; (try clear hb); (try clear hb2); (try clear hk); (try clear hi); (try clear ho0); obtain ⟨Ao23, co23, eo23⟩ := Kd.V_slice HO223.out; subst eo23; obtain ⟨Ao24, co24, eo24⟩ := Kd.R_slice HO227.out; subst eo24) | ((with_reducible refine gate_callee (f := 16) rfl ?_); refine goesL_ (some 45) rfl rfl Tryd.func16 (by kernel_rfl) rfl #[.slice Ao23 t221.length co23, .slice Ao24 t225.length co24] rfl (by (try simp only [List.map_toArray, List.map_cons, List.map_nil]); first | done | rfl | (simp only [List.length_drop, List.length_take]; rfl)) ?_; (with_reducible refine (wishbookref00_Match.calls kj4 _ _ t221 _ _ t225 true _ ?side1 ?side2 ?side3 ?side4 A15.out).mono ?_); (case side1 => repeat (first | exact (Kd.V_reads' HO223.out).2.2 | (with_reducible refine Kd.C_alloc ?_ _) | (with_reducible refine Kd.C_drewN ?_ _) | (with_reducible refine Kd.C_drew ?_))); (case side2 => exact (Kd.V_reads' HO223.out).2.1); (case side3 => repeat (first | exact (Kd.R_reads' HO227.out).2.2 | (with_reducible refine Kd.C_alloc ?_ _) | (with_reducible refine Kd.C_drewN ?_ _) | (with_reducible refine Kd.C_drew ?_))); (case side4 => exact (Kd.R_reads' HO227.out).2.1); rintro e w' ⟨rfl, ⟨nd, rfl⟩⟩; refine ⟨_, rfl, ?_⟩) | (go_at_call 19; (with_reducible refine (wishbooklaw10_listed.calls  t230 _ ?sideF A18.out).mono ?_); (case sideF => exact Fates.below HFA.out (by repeat (first | (with_reducible first | exact HB.out | apply below_alloc | apply pw_below_drewN | apply below_drew1 | refine below_set ?_ GE216.out) | exact HB.out))); rintro e w25 ⟨rfl, hb⟩; have n0_ := Aside0.mk (Kd.V_below (by (with_reducible repeat (first | apply Kd.V_alloc | apply Kd.V_drewN | apply Kd.V_drew)); exact HO223.out) hb); have n1_ := Aside0.mk (Kd.R_below (by (with_reducible repeat (first | apply Kd.R_alloc | apply Kd.R_drewN | apply Kd.R_drew)); exact HO227.out) hb); have n2_ := Aside0.mk (blk_below (g := gb216) (o := .cells #[.slice A0_0 l0_0.length c0_0, .slice A0_1 l0_1.length c0_1, .slice A0_2 l0_2.length c0_2] 26 (0, 0)) (by (with_reducible repeat (first | refine blk_drewN ?_ _ | refine blk_drew ?_ | refine blk_alloc ?_ _)); exact BK216.out) hb); have n3_ := Aside0.mk (below_step (by repeat (first | (with_reducible first | exact HB.out | apply below_alloc | apply pw_below_drewN | apply below_drew1 | refine below_set ?_ GE216.out) | exact HB.out)) hb); clear HO223; clear HO227; clear BK216; clear HB; have HO223 := n0_; have HO227 := n1_; have BK216 := n2_; have HB := n3_; clear n0_ n1_ n2_ n3_; (try clear hb); (try clear hb2); (try clear hk); (try clear hi)))
            go_ret
            exact ⟨by first | rfl | (simp [errW_none, errW_some] <;> rfl) | (simp [*, errW_none, errW_some] <;> rfl), by repeat (first | (with_reducible first | exact HB.out | apply below_alloc | apply pw_below_drewN | apply below_drew1 | refine below_set ?_ GE216.out) | exact HB.out)⟩
          · rw [if_neg c17] at H
            have c17b0 : (t224 == t228) = false := beq_eq_false_iff_ne.mpr c17
            have c17b1 : (t224 != t228) = true := bne_iff_ne.mpr c17
            obtain rfl := Option.some.inj H
            have hcz26_0 : wc.cell? ⟨gb216, 0, none⟩ = some (.slice A0_0 l0_0.length c0_0) := (blk_cell BK216.out 0).trans rfl
            have hcz26_1 : wc.cell? ⟨gb216, 1, none⟩ = some (.slice A0_1 l0_1.length c0_1) := (blk_cell BK216.out 1).trans rfl
            have hcz26_2 : wc.cell? ⟨gb216, 2, none⟩ = some (.slice A0_2 l0_2.length c0_2) := (blk_cell BK216.out 2).trans rfl
            have hfz26_0 := blk_frozen BK216.out 0
            have hfz26_1 := blk_frozen BK216.out 1
            have hfz26_2 := blk_frozen BK216.out 2
            go_wp2_with (first | ((with_reducible refine gate_callee (f := 26) rfl ?_); refine goesL_ (some 34) rfl rfl Tryd.func26 (by kernel_rfl) rfl #[.agg #[.slice A0_0 l0_0.length c0_0, .slice A0_1 l0_1.length c0_1, .slice A0_2 l0_2.length c0_2], .int .i64 a1] rfl (by (try simp only [List.map_toArray, List.map_cons, List.map_nil]); first | done | rfl | (simp only [List.length_drop, List.length_take]; rfl)) ?_; (with_reducible refine (lack_Broken.calls _ _ l0_0 _ _ l0_1 _ _ l0_2 a1 t221 t224 _ ?side1 ?side2 ?side3 ?side4 ?side5 ?side6 ?sideF A13.out).mono ?_); (case side1 => repeat (first | exact (Kd.C_below HR0_0.out HB.out) | (with_reducible refine Kd.C_alloc ?_ _) | (with_reducible refine Kd.C_drewN ?_ _) | (with_reducible refine Kd.C_drew ?_))); (case side2 => exact HC0_0.out); (case side3 => repeat (first | exact (Kd.C_below HR0_1.out HB.out) | (with_reducible refine Kd.C_alloc ?_ _) | (with_reducible refine Kd.C_drewN ?_ _) | (with_reducible refine Kd.C_drew ?_))); (case side4 => exact HC0_1.out); (case side5 => repeat (first | exact (Kd.C_below HR0_2.out HB.out) | (with_reducible refine Kd.C_alloc ?_ _) | (with_reducible refine Kd.C_drewN ?_ _) | (with_reducible refine Kd.C_drew ?_))); (case side6 => exact HC0_2.out); (case sideF => exact Fates.below HFA.out (by repeat (first | (with_reducible first | exact HB.out | apply below_alloc | apply pw_below_drewN | apply below_drew1 | refine below_set ?_ GE216.out) | exact HB.out))); rintro e w27 ⟨v222, rfl, ho0, hb⟩; refine ⟨_, rfl, ?_⟩; have n0_ := Aside0.mk (Kd.V_lower (Kd.V_mono (ok' := fun k_ => k_ ≠ gb216) ho0 (fun k_ hk_ => (Kd.freshB (g := gb216) (o := .cells #[.slice A0_0 l0_0.length c0_0, .slice A0_1 l0_1.length c0_1, .slice A0_2 l0_2.length c0_2] 26 (0, 0)) (by (with_reducible repeat (first | refine blk_drewN ?_ _ | refine blk_drew ?_ | refine blk_alloc ?_ _)); exact BK216.out) k_ hk_))) (below_size (by repeat (first | (with_reducible first | exact HB.out | apply below_alloc | apply pw_below_drewN | apply below_drew1 | refine below_set ?_ GE216.out) | exact HB.out)))); have n1_ := Aside0.mk (blk_below (g := gb216) (o := .cells #[.slice A0_0 l0_0.length c0_0, .slice A0_1 l0_1.length c0_1, .slice A0_2 l0_2.length c0_2] 26 (0, 0)) (by (with_reducible repeat (first | refine blk_drewN ?_ _ | refine blk_drew ?_ | refine blk_alloc ?_ _)); exact BK216.out) hb); have n2_ := Aside0.mk (below_step (by repeat (first | (with_reducible first | exact HB.out | apply below_alloc | apply pw_below_drewN | apply below_drew1 | refine below_set ?_ GE216.out) | exact HB.out)) hb); clear BK216; clear HB; have HO223 := n0_; have BK216 := n1_; have HB := n2_; clear n0_ n1_ n2_; (try clear hb); (try clear hb2); (try clear hk); (try clear hi); (try clear ho0); have hcz28_0 : w27.cell? ⟨gb216, 0, none⟩ = some (.slice A0_0 l0_0.length c0_0) := (blk_cell BK216.out 0).trans rfl; have hcz28_1 : w27.cell? ⟨gb216, 1, none⟩ = some (.slice A0_1 l0_1.length c0_1) := (blk_cell BK216.out 1).trans rfl; have hcz28_2 : w27.cell? ⟨gb216, 2, none⟩ = some (.slice A0_2 l0_2.length c0_2) := (blk_cell BK216.out 2).trans rfl; have hfz28_0 := blk_frozen BK216.out 0; have hfz28_1 := blk_frozen BK216.out 1; have hfz28_2 := blk_frozen BK216.out 2) | ((with_reducible refine gate_callee (f := 27) rfl ?_); refine goesL_ (some 40) rfl rfl Tryd.func27 (by kernel_rfl) rfl #[.agg #[.slice A0_0 l0_0.length c0_0, .slice A0_1 l0_1.length c0_1, .slice A0_2 l0_2.length c0_2], .int .i64 a1] rfl (by (try simp only [List.map_toArray, List.map_cons, List.map_nil]); first | done | rfl | (simp only [List.length_drop, List.length_take]; rfl)) ?_; (with_reducible refine (wishbookref10_Broken.calls _ _ l0_0 _ _ l0_1 _ _ l0_2 a1 t225 t228 _ ?side1 ?side2 ?side3 ?side4 ?side5 ?side6 A14.out).mono ?_); (case side1 => repeat (first | exact (Kd.C_below HR0_0.out HB.out) | (with_reducible refine Kd.C_alloc ?_ _) | (with_reducible refine Kd.C_drewN ?_ _) | (with_reducible refine Kd.C_drew ?_))); (case side2 => exact HC0_0.out); (case side3 => repeat (first | exact (Kd.C_below HR0_1.out HB.out) | (with_reducible refine Kd.C_alloc ?_ _) | (with_reducible refine Kd.C_drewN ?_ _) | (with_reducible refine Kd.C_drew ?_))); (case side4 => exact HC0_1.out); (case side5 => repeat (first | exact (Kd.C_below HR0_2.out HB.out) | (with_reducible refine Kd.C_alloc ?_ _) | (with_reducible refine Kd.C_drewN ?_ _) | (with_reducible refine Kd.C_drew ?_))); (case side6 => exact HC0_2.out); rintro e w29 ⟨v226, rfl, ho0, hb⟩; refine ⟨_, rfl, ?_⟩; have n0_ := Aside0.mk (Kd.V_elder' (by (with_reducible repeat (first | apply Kd.V_alloc | apply Kd.V_drewN | apply Kd.V_drew)); exact HO223.out) (Kd.R_base ho0) hb); have n1_ := Aside0.mk (Kd.R_lower ho0 (below_size (by repeat (first | (with_reducible first | exact HB.out | apply below_alloc | apply pw_below_drewN | apply below_drew1 | refine below_set ?_ GE216.out) | exact HB.out)))); have n2_ := Aside0.mk (blk_below (g := gb216) (o := .cells #[.slice A0_0 l0_0.length c0_0, .slice A0_1 l0_1.length c0_1, .slice A0_2 l0_2.length c0_2] 26 (0, 0)) (by (with_reducible repeat (first | refine blk_drewN ?_ _ | refine blk_drew ?_ | refine blk_alloc ?_ _)); exact BK216.out) hb); have n3_ := Aside0.mk (below_step (by repeat (first | (with_reducible first | exact HB.out | apply below_alloc | apply pw_below_drewN | apply below_drew1 | refine below_set ?_ GE216.out) | exact HB.out)) hb); clear HO223; clear BK216; clear HB; have HO223 := n0_; have HO227 := n1_; have BK216 := n2_; have HB := n3_; clear n0_ n1_ n2_ n3_; (try clear hb); (try clear hb2); (try clear hk); (try clear hi); (try clear ho0); obtain ⟨Ao30, co30, eo30⟩ := Kd.V_slice HO223.out; subst eo30; obtain ⟨Ao31, co31, eo31⟩ := Kd.R_slice HO227.out; subst eo31) | ((with_reducible refine gate_callee (f := 16) rfl ?_); refine goesL_ (some 45) rfl rfl Tryd.func16 (by kernel_rfl) rfl #[.slice Ao30 t221.length co30, .slice Ao31 t225.length co31] rfl (by (try simp only [List.map_toArray, List.map_cons, List.map_nil]); first | done | rfl | (simp only [List.length_drop, List.length_take]; rfl)) ?_; (with_reducible refine (wishbookref00_Match.calls kj4 _ _ t221 _ _ t225 true _ ?side1 ?side2 ?side3 ?side4 A15.out).mono ?_); (case side1 => repeat (first | exact (Kd.V_reads' HO223.out).2.2 | (with_reducible refine Kd.C_alloc ?_ _) | (with_reducible refine Kd.C_drewN ?_ _) | (with_reducible refine Kd.C_drew ?_))); (case side2 => exact (Kd.V_reads' HO223.out).2.1); (case side3 => repeat (first | exact (Kd.R_reads' HO227.out).2.2 | (with_reducible refine Kd.C_alloc ?_ _) | (with_reducible refine Kd.C_drewN ?_ _) | (with_reducible refine Kd.C_drew ?_))); (case side4 => exact (Kd.R_reads' HO227.out).2.1); rintro e w' ⟨rfl, ⟨nd, rfl⟩⟩; refine ⟨_, rfl, ?_⟩))
            go_ret
            exact ⟨by first | rfl | (simp [errW_none, errW_some] <;> rfl) | (simp [*, errW_none, errW_some] <;> rfl), by repeat (first | (with_reducible first | exact HB.out | apply below_alloc | apply pw_below_drewN | apply below_drew1 | refine below_set ?_ GE216.out) | exact HB.out)⟩
        · replace c16 := Bool.eq_false_iff.mpr c16
          subst c16
          have H1 : (some false) = some r := by rw [if_neg (show ¬ (false = true) by decide)] at H; exact H
          clear H
          have H := H1
          clear H1
          obtain rfl := Option.some.inj H
          have hcz32_0 : wc.cell? ⟨gb216, 0, none⟩ = some (.slice A0_0 l0_0.length c0_0) := (blk_cell BK216.out 0).trans rfl
          have hcz32_1 : wc.cell? ⟨gb216, 1, none⟩ = some (.slice A0_1 l0_1.length c0_1) := (blk_cell BK216.out 1).trans rfl
          have hcz32_2 : wc.cell? ⟨gb216, 2, none⟩ = some (.slice A0_2 l0_2.length c0_2) := (blk_cell BK216.out 2).trans rfl
          have hfz32_0 := blk_frozen BK216.out 0
          have hfz32_1 := blk_frozen BK216.out 1
          have hfz32_2 := blk_frozen BK216.out 2
          go_wp2_with (first | ((with_reducible refine gate_callee (f := 26) rfl ?_); refine goesL_ (some 34) rfl rfl Tryd.func26 (by kernel_rfl) rfl #[.agg #[.slice A0_0 l0_0.length c0_0, .slice A0_1 l0_1.length c0_1, .slice A0_2 l0_2.length c0_2], .int .i64 a1] rfl (by (try simp only [List.map_toArray, List.map_cons, List.map_nil]); first | done | rfl | (simp only [List.length_drop, List.length_take]; rfl)) ?_; (with_reducible refine (lack_Broken.calls _ _ l0_0 _ _ l0_1 _ _ l0_2 a1 t221 t224 _ ?side1 ?side2 ?side3 ?side4 ?side5 ?side6 ?sideF A13.out).mono ?_); (case side1 => repeat (first | exact (Kd.C_below HR0_0.out HB.out) | (with_reducible refine Kd.C_alloc ?_ _) | (with_reducible refine Kd.C_drewN ?_ _) | (with_reducible refine Kd.C_drew ?_))); (case side2 => exact HC0_0.out); (case side3 => repeat (first | exact (Kd.C_below HR0_1.out HB.out) | (with_reducible refine Kd.C_alloc ?_ _) | (with_reducible refine Kd.C_drewN ?_ _) | (with_reducible refine Kd.C_drew ?_))); (case side4 => exact HC0_1.out); (case side5 => repeat (first | exact (Kd.C_below HR0_2.out HB.out) | (with_reducible refine Kd.C_alloc ?_ _) | (with_reducible refine Kd.C_drewN ?_ _) | (with_reducible refine Kd.C_drew ?_))); (case side6 => exact HC0_2.out); (case sideF => exact Fates.below HFA.out (by repeat (first | (with_reducible first | exact HB.out | apply below_alloc | apply pw_below_drewN | apply below_drew1 | refine below_set ?_ GE216.out) | exact HB.out))); rintro e w33 ⟨v222, rfl, ho0, hb⟩; refine ⟨_, rfl, ?_⟩; have n0_ := Aside0.mk (Kd.V_lower (Kd.V_mono (ok' := fun k_ => k_ ≠ gb216) ho0 (fun k_ hk_ => (Kd.freshB (g := gb216) (o := .cells #[.slice A0_0 l0_0.length c0_0, .slice A0_1 l0_1.length c0_1, .slice A0_2 l0_2.length c0_2] 26 (0, 0)) (by (with_reducible repeat (first | refine blk_drewN ?_ _ | refine blk_drew ?_ | refine blk_alloc ?_ _)); exact BK216.out) k_ hk_))) (below_size (by repeat (first | (with_reducible first | exact HB.out | apply below_alloc | apply pw_below_drewN | apply below_drew1 | refine below_set ?_ GE216.out) | exact HB.out)))); have n1_ := Aside0.mk (blk_below (g := gb216) (o := .cells #[.slice A0_0 l0_0.length c0_0, .slice A0_1 l0_1.length c0_1, .slice A0_2 l0_2.length c0_2] 26 (0, 0)) (by (with_reducible repeat (first | refine blk_drewN ?_ _ | refine blk_drew ?_ | refine blk_alloc ?_ _)); exact BK216.out) hb); have n2_ := Aside0.mk (below_step (by repeat (first | (with_reducible first | exact HB.out | apply below_alloc | apply pw_below_drewN | apply below_drew1 | refine below_set ?_ GE216.out) | exact HB.out)) hb); clear BK216; clear HB; have HO223 := n0_; have BK216 := n1_; have HB := n2_; clear n0_ n1_ n2_; (try clear hb); (try clear hb2); (try clear hk); (try clear hi); (try clear ho0); have hcz34_0 : w33.cell? ⟨gb216, 0, none⟩ = some (.slice A0_0 l0_0.length c0_0) := (blk_cell BK216.out 0).trans rfl; have hcz34_1 : w33.cell? ⟨gb216, 1, none⟩ = some (.slice A0_1 l0_1.length c0_1) := (blk_cell BK216.out 1).trans rfl; have hcz34_2 : w33.cell? ⟨gb216, 2, none⟩ = some (.slice A0_2 l0_2.length c0_2) := (blk_cell BK216.out 2).trans rfl; have hfz34_0 := blk_frozen BK216.out 0; have hfz34_1 := blk_frozen BK216.out 1; have hfz34_2 := blk_frozen BK216.out 2) | ((with_reducible refine gate_callee (f := 27) rfl ?_); refine goesL_ (some 40) rfl rfl Tryd.func27 (by kernel_rfl) rfl #[.agg #[.slice A0_0 l0_0.length c0_0, .slice A0_1 l0_1.length c0_1, .slice A0_2 l0_2.length c0_2], .int .i64 a1] rfl (by (try simp only [List.map_toArray, List.map_cons, List.map_nil]); first | done | rfl | (simp only [List.length_drop, List.length_take]; rfl)) ?_; (with_reducible refine (wishbookref10_Broken.calls _ _ l0_0 _ _ l0_1 _ _ l0_2 a1 t225 t228 _ ?side1 ?side2 ?side3 ?side4 ?side5 ?side6 A14.out).mono ?_); (case side1 => repeat (first | exact (Kd.C_below HR0_0.out HB.out) | (with_reducible refine Kd.C_alloc ?_ _) | (with_reducible refine Kd.C_drewN ?_ _) | (with_reducible refine Kd.C_drew ?_))); (case side2 => exact HC0_0.out); (case side3 => repeat (first | exact (Kd.C_below HR0_1.out HB.out) | (with_reducible refine Kd.C_alloc ?_ _) | (with_reducible refine Kd.C_drewN ?_ _) | (with_reducible refine Kd.C_drew ?_))); (case side4 => exact HC0_1.out); (case side5 => repeat (first | exact (Kd.C_below HR0_2.out HB.out) | (with_reducible refine Kd.C_alloc ?_ _) | (with_reducible refine Kd.C_drewN ?_ _) | (with_reducible refine Kd.C_drew ?_))); (case side6 => exact HC0_2.out); rintro e w35 ⟨v226, rfl, ho0, hb⟩; refine ⟨_, rfl, ?_⟩; have n0_ := Aside0.mk (Kd.V_elder' (by (with_reducible repeat (first | apply Kd.V_alloc | apply Kd.V_drewN | apply Kd.V_drew)); exact HO223.out) (Kd.R_base ho0) hb); have n1_ := Aside0.mk (Kd.R_lower ho0 (below_size (by repeat (first | (with_reducible first | exact HB.out | apply below_alloc | apply pw_below_drewN | apply below_drew1 | refine below_set ?_ GE216.out) | exact HB.out)))); have n2_ := Aside0.mk (blk_below (g := gb216) (o := .cells #[.slice A0_0 l0_0.length c0_0, .slice A0_1 l0_1.length c0_1, .slice A0_2 l0_2.length c0_2] 26 (0, 0)) (by (with_reducible repeat (first | refine blk_drewN ?_ _ | refine blk_drew ?_ | refine blk_alloc ?_ _)); exact BK216.out) hb); have n3_ := Aside0.mk (below_step (by repeat (first | (with_reducible first | exact HB.out | apply below_alloc | apply pw_below_drewN | apply below_drew1 | refine below_set ?_ GE216.out) | exact HB.out)) hb); clear HO223; clear BK216; clear HB; have HO223 := n0_; have HO227 := n1_; have BK216 := n2_; have HB := n3_; clear n0_ n1_ n2_ n3_; (try clear hb); (try clear hb2); (try clear hk); (try clear hi); (try clear ho0); obtain ⟨Ao36, co36, eo36⟩ := Kd.V_slice HO223.out; subst eo36; obtain ⟨Ao37, co37, eo37⟩ := Kd.R_slice HO227.out; subst eo37) | ((with_reducible refine gate_callee (f := 16) rfl ?_); refine goesL_ (some 45) rfl rfl Tryd.func16 (by kernel_rfl) rfl #[.slice Ao36 t221.length co36, .slice Ao37 t225.length co37] rfl (by (try simp only [List.map_toArray, List.map_cons, List.map_nil]); first | done | rfl | (simp only [List.length_drop, List.length_take]; rfl)) ?_; (with_reducible refine (wishbookref00_Match.calls kj4 _ _ t221 _ _ t225 false _ ?side1 ?side2 ?side3 ?side4 A15.out).mono ?_); (case side1 => repeat (first | exact (Kd.V_reads' HO223.out).2.2 | (with_reducible refine Kd.C_alloc ?_ _) | (with_reducible refine Kd.C_drewN ?_ _) | (with_reducible refine Kd.C_drew ?_))); (case side2 => exact (Kd.V_reads' HO223.out).2.1); (case side3 => repeat (first | exact (Kd.R_reads' HO227.out).2.2 | (with_reducible refine Kd.C_alloc ?_ _) | (with_reducible refine Kd.C_drewN ?_ _) | (with_reducible refine Kd.C_drew ?_))); (case side4 => exact (Kd.R_reads' HO227.out).2.1); rintro e w' ⟨rfl, ⟨nd, rfl⟩⟩; refine ⟨_, rfl, ?_⟩))
          go_ret
          exact ⟨by first | rfl | (simp [errW_none, errW_some] <;> rfl) | (simp [*, errW_none, errW_some] <;> rfl), by repeat (first | (with_reducible first | exact HB.out | apply below_alloc | apply pw_below_drewN | apply below_drew1 | refine below_set ?_ GE216.out) | exact HB.out)⟩
end Go.Proofs.YtegpepnmnlockaaDoor.PL
namespace Go.Proofs.YtegpepnmnlockaaDoor.PL
open Go.RowKit Go.Proofs.YtegpepnmnlockaaDoorW.PrintWords Go.Proofs.YtegpepnmnlockaaDoorW.PrintLast Go.Proofs.YtegpepnmnlockaaDoorW.PrintMore
set_option linter.unusedVariables false
set_option linter.unusedSimpArgs false
section
variable (l0 : List Int) (l1 : List S47) (l2 : List S57)
theorem late_ends (hf : Few l0 l1 l2) (a : Int) : ∃ x e, lack_Late.f l0 l1 l2 a = some (x, e) := by
  unfold lack_Late.f
  rw [if_pos hf]
  repeat' split
  all_goals exact ⟨_, _, rfl⟩
theorem broken_ends (hf : Few l0 l1 l2) (a : Int) : ∃ x e, lack_Broken.f l0 l1 l2 a = some (x, e) ∧ x.length ≤ l1.length := by
  unfold lack_Broken.f
  rw [if_pos hf]
  repeat' split
  · exact ⟨_, _, rfl, brokF_len _ _ _ _⟩
  all_goals exact ⟨_, _, rfl, Nat.zero_le _⟩
/-- LackLates is true of all lists that a machine holds. -/
theorem LackLates_pure (a : Int) (hf : Few l0 l1 l2) : ∃ k, wishbooklaw10_LackLates.f k l0 l1 l2 a = some true := by
  refine ⟨l1.length + 10, ?_⟩
  generalize hk : l1.length + 10 = k
  obtain ⟨x, e, hx⟩ := late_ends l0 l1 l2 hf a
  obtain ⟨y, g, hy, hl⟩ := broken_ends l0 l1 l2 hf a
  have h1 := hf.2.1
  obtain ⟨k, rfl⟩ : ∃ j, k = j + 1 := ⟨k - 1, by omega⟩
  have hx2 : wishbookref10_Late.f l0 l1 l2 a = some (x, e) := hx
  have hy2 : wishbookref10_Broken.f l0 l1 l2 a = some (y, g) := hy
  unfold wishbooklaw10_LackLates.f
  simp only [hx, hx2, Option.bind_some]
  rw [if_pos trivial, bne_self_eq_false, wishbooklaw10_LackLates.j0, if_neg (by decide)]
  simp only [hy, hy2, Option.bind_some]
  rw [Match_f y (by omega) k (by omega), Option.bind_some, if_pos rfl, if_pos trivial]
  rfl
end
end Go.Proofs.YtegpepnmnlockaaDoor.PL

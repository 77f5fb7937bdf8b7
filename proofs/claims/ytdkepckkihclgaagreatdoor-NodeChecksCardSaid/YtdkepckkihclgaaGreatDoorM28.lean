import Derived.Test.YtdkepckkihclgaaGreatDoorM27
namespace Go.Proofs.YtdkepckkihclgaaGreatDoor.PNodeChecks
open Go.RowKit Go.Proofs.YtdkepckkihclgaaGreatDoorW.PrintWords Go.Proofs.YtdkepckkihclgaaGreatDoorW.PrintLast Go.Proofs.YtdkepckkihclgaaGreatDoorW.PrintMore
set_option linter.unusedVariables false
set_option linter.unusedSimpArgs false
def mayB (kd k : Int) : Bool := if kd = 1 then decide (2 ≤ k) && decide (k ≤ 8) else if kd = 5 then inB [9, 10, 5, 6, 7, 12, 13, 11, 4] k else if kd = 6 then inB [16, 4] k else if kd = 7 then inB [9] k else if kd = 8 then inB [17, 4] k else if kd = 11 then inB [9, 4] k else if kd = 12 then inB [14] k else if kd = 23 then inB [24] k else if kd = 16 then inB [4] k else false
theorem inB_cons (a : Int) (l : List Int) (k : Int) : inB (a :: l) k = ((k == a) || inB l k) := by
 unfold inB
 rw [Bool.eq_iff_iff]
 simp
theorem inB_nil (k : Int) : inB [] k = false := rfl
theorem may_f (kd k : Int) : glossaryref07_may.f kd k = some (mayB kd k) := by
 unfold glossaryref07_may.f mayB
 by_cases h1 : kd = 1
 ·rw [if_pos h1, if_pos h1]
  by_cases h : 2 ≤ k
  ·rw [if_pos (by omega)]; simp [h]
  ·rw [if_neg (by omega)]; simp [h]
 rw [if_neg h1, if_neg h1]
 by_cases h2 : kd = 5
 ·rw [if_pos h2, if_pos h2]
  simp only [inB_cons, inB_nil]
  by_cases a1 : k = 9
  ·rw [if_pos a1, a1]; rfl
  rw [if_neg a1]
  by_cases a2 : k = 10
  ·rw [if_pos a2, a2]; rfl
  rw [if_neg a2]
  by_cases a3 : k = 5
  ·rw [if_pos a3, a3]; rfl
  rw [if_neg a3]
  by_cases a4 : k = 6
  ·rw [if_pos a4, a4]; rfl
  rw [if_neg a4]
  by_cases a5 : k = 7
  ·rw [if_pos a5, a5]; rfl
  rw [if_neg a5]
  by_cases a6 : 11 ≤ k ∧ k ≤ 13
  ·rw [if_pos a6.1, if_pos a6.2]
   have : k = 11 ∨ k = 12 ∨ k = 13 := by omega
   rcases this with e | e | e <;> rw [e] <;> rfl
  ·have b1 : ¬ k = 11 := by omega
   have b2 : ¬ k = 12 := by omega
   have b3 : ¬ k = 13 := by omega
   have e : (if k ≥ 11 then (if k ≤ 13 then some true else some (k == 4)) else some (k == 4)) = some (k == 4) := by
    split
    ·rw [if_neg (by omega)]
    ·rfl
   rw [e]
   rw [beq_eq_false_iff_ne.mpr a1, beq_eq_false_iff_ne.mpr a2, beq_eq_false_iff_ne.mpr a3, beq_eq_false_iff_ne.mpr a4, beq_eq_false_iff_ne.mpr a5, beq_eq_false_iff_ne.mpr b1, beq_eq_false_iff_ne.mpr b2, beq_eq_false_iff_ne.mpr b3]
   simp
 rw [if_neg h2, if_neg h2]
 by_cases h3 : kd = 6
 ·rw [if_pos h3, if_pos h3]
  simp only [inB_cons, inB_nil]
  by_cases a : k = 16 <;> simp [a]
 rw [if_neg h3, if_neg h3]
 by_cases h4 : kd = 7
 ·rw [if_pos h4, if_pos h4]; simp [inB_cons, inB_nil]
 rw [if_neg h4, if_neg h4]
 by_cases h5 : kd = 8
 ·rw [if_pos h5, if_pos h5]
  simp only [inB_cons, inB_nil]
  by_cases a : k = 17 <;> simp [a]
 rw [if_neg h5, if_neg h5]
 by_cases h6 : kd = 11
 ·rw [if_pos h6, if_pos h6]
  simp only [inB_cons, inB_nil]
  by_cases a : k = 9 <;> simp [a]
 rw [if_neg h6, if_neg h6]
 by_cases h7 : kd = 12
 ·rw [if_pos h7, if_pos h7]; simp [inB_cons, inB_nil]
 rw [if_neg h7, if_neg h7]
 by_cases h8 : kd = 23
 ·rw [if_pos h8, if_pos h8]; simp [inB_cons, inB_nil]
 rw [if_neg h8, if_neg h8]
 by_cases h9 : kd = 16
 ·rw [if_pos h9, if_pos h9]; simp [inB_cons, inB_nil]
 rw [if_neg h9, if_neg h9]
def pk (l : List S24) : Nat := (l.filter fun y => y.f0 == 3).length
theorem pk_cons (y : S24) (l : List S24) : pk (y :: l) = (if y.f0 = 3 then 1 else 0) + pk l := by
 unfold pk
 by_cases h : y.f0 = 3 <;> simp [h] <;> omega
def labB (kd : Int) (y : S24) : Bool := !(decide (kd = 11) && (decide (y.f0 = 9) && !(decide (y.f4 = 0))))
def kaB (kd : Int) (l : List S24) : Bool := l.all (fun y => mayB kd y.f0 && labB kd y) && (decide (pk l ≤ 1) && (!(decide (kd = 12)) || decide (0 < l.length)))
theorem E_ka (kd : Int) (l : List S24) (hl : l.length ≤ 5000) : ∀ (m n c : Nat), n + m = l.length → c ≤ n →
  Ev (fun k => kaL k kd l (n : Int) (c : Int)) ((l.drop n).all (fun y => mayB kd y.f0 && labB kd y) && (decide (c + pk (l.drop n) ≤ 1) && (!(decide (kd = 12)) || decide (0 < l.length)))) := by
 intro m
 induction m with
 | zero =>
  intro n c hn hc
  rw [List.drop_eq_nil_of_le (by omega)]
  refine Ev.suc fun k => ?_
  simp only [kaL]
  rw [if_neg (by omega)]
  have : decide ((c : Int) ≤ 1) = decide (c + pk [] ≤ 1) := by rw [Bool.eq_iff_iff, decide_eq_true_eq, decide_eq_true_eq]; simp only [pk]; simp; omega
  rw [this]
  rfl
 | succ m ih =>
  intro n c hn hc
  have hlt : n < l.length := by omega
  rw [List.drop_eq_getElem_cons hlt, List.all_cons, pk_cons]
  have st : ∀ k, kaL (k + 1) kd l (n : Int) (c : Int) = if mayB kd l[n].f0 = false then some false else if kd = 11 ∧ l[n].f0 = 9 ∧ l[n].f4 ≠ 0 then some false else kaL k kd l ((n + 1 : Nat) : Int) (if l[n].f0 = 3 then ((c + 1 : Nat) : Int) else (c : Int)) := by
   intro k
   simp only [kaL]
   rw [if_pos (by omega), if_pos (by omega), rd_at _ n hlt, may_f, Option.bind_some, w1 n (by omega), w1 c (by omega)]
  refine Ev.step st ?_
  cases hm : mayB kd l[n].f0 with
  | false => simp only [if_true, Bool.false_and]; exact Ev.now _
  | true =>
   simp only [Bool.true_eq_false, if_false, Bool.true_and]
   by_cases h11 : kd = 11 ∧ l[n].f0 = 9 ∧ l[n].f4 ≠ 0
   ·have : labB kd l[n] = false := by unfold labB; simp [h11.1, h11.2.1, h11.2.2]
    rw [this]
    exact Ev.all fun k => if_pos h11
   ·have : labB kd l[n] = true := by
     unfold labB
     by_cases a : kd = 11 <;> by_cases b : l[n].f0 = 9 <;> by_cases d : l[n].f4 = 0 <;> simp_all
    rw [this]
    simp only [h11, if_false, Bool.true_and]
    by_cases h3 : l[n].f0 = 3
    ·have := ih (n + 1) (c + 1) (by omega) (by omega)
     simp only [h3, if_true]
     rw [show c + (1 + pk (l.drop (n + 1))) = c + 1 + pk (l.drop (n + 1)) by omega]
     exact this
    ·have := ih (n + 1) c (by omega) (by omega)
     simp only [h3, if_false, Nat.zero_add]
     exact this
theorem E_kaB (kd : Int) (l : List S24) (hl : l.length ≤ 5000) : Ev (fun k => kaL k kd l 0 0) (kaB kd l) := by
 have := E_ka kd l hl l.length 0 0 (Nat.zero_add _) (Nat.le_refl _)
 rw [List.drop_zero, Nat.zero_add] at this
 exact this
theorem cl_ends (x : S24) : cnt x ≤ 5000 → ∀ a : Int, 0 ≤ a → a ≤ 64 → ∃ z, Ev (fun k => clF k x a) z := by
 refine S24.ind (P := fun x => cnt x ≤ 5000 → ∀ a : Int, 0 ≤ a → a ≤ 64 → ∃ z, Ev (fun k => clF k x a) z) ?_ x
 intro x ih hx a h0 h64
 have hl := len_cnt x.f7
 have hc := cnt_eq x
 have hw : wrap64 (a + 1) = a + 1 := by unfold wrap64; omega
 have loop : ∀ (m n : Nat) (ys : List S24), n + m = x.f7.length → ys.length ≤ n → ∃ zs, Ev (fun k => clL k x.f7 a (n : Int) ys) zs := by
  intro m
  induction m with
  | zero =>
   intro n ys hn hy
   refine ⟨ys, Ev.suc fun k => ?_⟩
   simp only [clL]
   rw [if_neg (by omega)]
  | succ m ihm =>
   intro n ys hn hy
   have hlt : n < x.f7.length := by omega
   have hm := cnt_mem (List.getElem_mem hlt)
   by_cases h : a < 64
   ·obtain ⟨y, e1⟩ := ih _ (List.getElem_mem hlt) (by omega) (a + 1) (by omega) (by omega)
    obtain ⟨zs, e2⟩ := ihm (n + 1) (ys ++ [y]) (by omega) (by simp; omega)
    refine ⟨zs, Ev.step (f := fun k => (clF k x.f7[n] (a + 1)).bind fun y => clL k x.f7 a ((n + 1 : Nat) : Int) (ys ++ [y])) (fun k => ?_) (Ev.bind e1 e2)⟩
    simp only [clL]
    rw [if_pos (by omega), if_pos (by omega), if_pos h, if_pos (by omega), rd_at _ n hlt, w1 n (by omega), hw]
   ·obtain ⟨zs, e2⟩ := ihm (n + 1) ys (by omega) (by omega)
    refine ⟨zs, Ev.step (f := fun k => clL k x.f7 a ((n + 1 : Nat) : Int) ys) (fun k => ?_) e2⟩
    simp only [clL]
    rw [if_pos (by omega), if_pos (by omega), if_neg h, w1 n (by omega)]
 obtain ⟨zs, e⟩ := loop x.f7.length 0 [] (Nat.zero_add _) (Nat.le_refl _)
 exact ⟨_, Ev.step (fun k => by simp only [clF]; rfl) (Ev.map (fun ys => (⟨x.f0, x.f1, x.f2, x.f3, x.f4, x.f5, x.f6, ys⟩ : S24)) e)⟩
theorem of_ends (kd : Int) (l : List S24) (hl : cntS l ≤ 5000) : ∀ (m n : Nat) (ys : List S24), n + m = l.length → ys.length ≤ n →
  ∃ zs, Ev (fun k => ofL k l kd (n : Int) ys) zs ∧ zs.length = ys.length + ((l.drop n).filter fun y => y.f0 == kd).length := by
 have hll := len_cnt l
 intro m
 induction m with
 | zero =>
  intro n ys hn hy
  rw [List.drop_eq_nil_of_le (by omega)]
  refine ⟨ys, Ev.suc fun k => ?_, by simp⟩
  simp only [ofL]
  rw [if_neg (by omega)]
 | succ m ihm =>
  intro n ys hn hy
  have hlt : n < l.length := by omega
  have hm := cnt_mem (List.getElem_mem hlt)
  rw [List.drop_eq_getElem_cons hlt]
  by_cases h : l[n].f0 = kd
  ·obtain ⟨y, e1⟩ := cl_ends l[n] (by omega) 1 (by decide) (by decide)
   obtain ⟨zs, e2, q⟩ := ihm (n + 1) (ys ++ [y]) (by omega) (by simp; omega)
   refine ⟨zs, Ev.step (f := fun k => (clF k l[n] 1).bind fun y => ofL k l kd ((n + 1 : Nat) : Int) (ys ++ [y])) (fun k => ?_) (Ev.bind e1 e2), ?_⟩
   ·simp only [ofL]
    rw [if_pos (by omega), if_pos (by omega), rd_at _ n hlt, if_pos h, if_pos (by omega), w1 n (by omega)]
   ·rw [q, List.filter_cons_of_pos (by simpa using h)]; simp only [List.length_append, List.length_cons, List.length_nil]; omega
  ·obtain ⟨zs, e2, q⟩ := ihm (n + 1) ys (by omega) (by omega)
   refine ⟨zs, Ev.step (f := fun k => ofL k l kd ((n + 1 : Nat) : Int) ys) (fun k => ?_) e2, ?_⟩
   ·simp only [ofL]
    rw [if_pos (by omega), if_pos (by omega), rd_at _ n hlt, if_neg h, w1 n (by omega)]
   ·rw [q, List.filter_cons_of_neg (by simpa using h)]
theorem lab_ends (l : List S24) (hl : l.length ≤ 5000) : ∀ (m n : Nat), n + m = l.length → Ev (fun k => noLab k l (n : Int)) ((l.drop n).all (labB 11)) := by
 intro m
 induction m with
 | zero =>
  intro n hn
  rw [List.drop_eq_nil_of_le (by omega)]
  refine Ev.suc fun k => ?_
  simp only [noLab]
  rw [if_neg (by omega)]
  rfl
 | succ m ihm =>
  intro n hn
  have hlt : n < l.length := by omega
  rw [List.drop_eq_getElem_cons hlt, List.all_cons]
  have st : ∀ k, noLab (k + 1) l (n : Int) = if l[n].f0 = 9 then (if l[n].f4 = 0 then noLab k l ((n + 1 : Nat) : Int) else some false) else noLab k l ((n + 1 : Nat) : Int) := by
   intro k
   simp only [noLab]
   rw [if_pos (by omega), if_pos (by omega), rd_at _ n hlt, w1 n (by omega)]
  refine Ev.step st ?_
  unfold labB
  by_cases b : l[n].f0 = 9 <;> by_cases d : l[n].f4 = 0 <;> simp only [b, d, if_true, if_false, decide_true, decide_false, Bool.not_true, Bool.not_false, Bool.and_true, Bool.and_false, Bool.true_and, Bool.false_and]
  ·exact ihm (n + 1) (by omega)
  ·exact Ev.now _
  ·exact ihm (n + 1) (by omega)
  ·exact ihm (n + 1) (by omega)
theorem all_and (l : List S24) (p q : S24 → Bool) : l.all (fun y => p y && q y) = (l.all p && l.all q) := by
 induction l with
 | nil => rfl
 | cons y l ih => simp only [List.all_cons, ih]; cases p y <;> cases q y <;> simp
theorem lab_true {kd : Int} (h : kd ≠ 11) (l : List S24) : l.all (labB kd) = true := by
 rw [List.all_eq_true]
 intro y _
 unfold labB
 simp [h]
theorem pk_zero {kd : Int} (h : mayB kd 3 = false) (l : List S24) (ha : l.all (fun y => mayB kd y.f0) = true) : pk l = 0 := by
 unfold pk
 rw [List.length_eq_zero_iff, List.filter_eq_nil_iff]
 intro y hy e
 have := List.all_eq_true.1 ha y hy
 rw [beq_iff_eq.1 e, h] at this
 exact absurd this (by decide)
theorem kaB_plain {kd : Int} (h11 : kd ≠ 11) (h12 : kd ≠ 12) (h3 : mayB kd 3 = false) (l : List S24) : kaB kd l = l.all (fun y => mayB kd y.f0) := by
 unfold kaB
 rw [all_and, lab_true h11]
 cases ha : l.all (fun y => mayB kd y.f0) with
 | false => rfl
 | true => rw [pk_zero h3 l ha]; simp [h12]
theorem rd0 {l : List S24} (h : 0 < l.length) : rd_T24 l 0 = l[0] := rd_at l 0 h
theorem all_sub (l : List S24) (p q : S24 → Bool) (h : ∀ y ∈ l, p y = q y) : l.all p = l.all q := by
 induction l with
 | nil => rfl
 | cons y l ih =>
  rw [List.all_cons, List.all_cons, h y (List.mem_cons_self ..), ih (fun z hz => h z (List.mem_cons_of_mem _ hz))]
theorem E_kn (nd : Nat) (l : List S24) (hl : l.length ≤ 5000) (g : Nat → Option Bool) (e : Bool) (he : Ev g e) (hnd : 0 < nd) : ∀ (m n : Nat), n + m = l.length →
  Ev (fun k => knL k (nd : Int) l (n : Int) (g k)) (((l.drop n).take (nd - n)).all (fun y => inB [18] y.f0) && ((l.drop (max n nd)).all (fun y => inB [4] y.f0) && e)) := by
 intro m
 induction m with
 | zero =>
  intro n hn
  rw [List.drop_eq_nil_of_le (by omega), List.drop_eq_nil_of_le (by omega)]
  obtain ⟨K, hK⟩ := he
  refine ⟨K + 1, fun k hk => ?_⟩
  obtain ⟨j, rfl⟩ : ∃ j, k = j + 1 := ⟨k - 1, by omega⟩
  show knL (j + 1) (nd : Int) l (n : Int) (g (j + 1)) = _
  simp only [knL]
  rw [if_neg (by omega), hK _ (by omega)]
  simp
 | succ m ihm =>
  intro n hn
  have hlt : n < l.length := by omega
  have ih := ihm (n + 1) (by omega)
  have st : ∀ k, knL (k + 1) (nd : Int) l (n : Int) (g (k + 1)) = if n < nd then (if l[n].f0 = 18 then knL k (nd : Int) l ((n + 1 : Nat) : Int) (g (k + 1)) else some false) else (if l[n].f0 = 4 then knL k (nd : Int) l ((n + 1 : Nat) : Int) (g (k + 1)) else some false) := by
   intro k
   simp only [knL]
   rw [if_pos (by omega), if_pos (by omega), if_neg (by omega), rd_at _ n hlt, w1 n (by omega)]
   by_cases h : n < nd
   ·rw [if_pos (by omega), if_pos h]
   ·rw [if_neg (by omega), if_neg h]
  have ih' : Ev (fun k => knL k (nd : Int) l ((n + 1 : Nat) : Int) (g (k + 1))) (((l.drop (n + 1)).take (nd - (n + 1))).all (fun y => inB [18] y.f0) && ((l.drop (max (n + 1) nd)).all (fun y => inB [4] y.f0) && e)) := by
   have key : ∀ (k : Nat) (i : Int) (r : Bool), knL k (nd : Int) l i (g k) = some r → ∀ e2, (∀ q, g k = some q → e2 = some q) → knL k (nd : Int) l i e2 = some r := by
    intro k
    generalize hg : g k = gk
    clear hg
    induction k with
    | zero => intro i r h; simp [knL] at h
    | succ k ihk =>
     intro i r h e2 h2
     simp only [knL] at h ⊢
     revert h
     repeat' split
     all_goals intro h
     all_goals first | exact h | exact ihk _ _ h e2 h2 | exact h2 _ h | (exact absurd h (by simp))
   obtain ⟨K, hK⟩ := ih
   obtain ⟨K2, hK2⟩ := he
   refine ⟨max K K2, fun k hk => ?_⟩
   refine key k _ _ (hK k (by omega)) _ (fun q hq => ?_)
   rw [hK2 k (by omega)] at hq
   rw [hK2 (k + 1) (by omega)]
   exact hq
  refine Ev.step st ?_
  by_cases h : n < nd
  ·simp only [h, if_true]
   have e1 : (l.drop n).take (nd - n) = l[n] :: (l.drop (n + 1)).take (nd - (n + 1)) := by
    rw [List.drop_eq_getElem_cons hlt, show nd - n = nd - (n + 1) + 1 by omega, List.take_succ_cons]
   rw [e1, List.all_cons, show max n nd = max (n + 1) nd by omega]
   simp only [inB_cons, inB_nil, Bool.or_false]
   simp only [inB_cons, inB_nil, Bool.or_false] at ih'
   by_cases h18 : l[n].f0 = 18
   ·simp only [h18, if_true, beq_self_eq_true, Bool.true_and]
    exact ih'
   ·have : (l[n].f0 == 18) = false := beq_eq_false_iff_ne.mpr h18
    simp only [h18, if_false, this, Bool.false_and]
    exact Ev.now _
  ·simp only [h, if_false]
   rw [show nd - (n + 1) = 0 by omega, List.take_zero, show max (n + 1) nd = n + 1 by omega] at ih'
   rw [show nd - n = 0 by omega, List.take_zero, show max n nd = n by omega, List.drop_eq_getElem_cons hlt, List.all_cons]
   simp only [inB_cons, inB_nil, Bool.or_false]
   simp only [inB_cons, inB_nil, Bool.or_false] at ih'
   by_cases h4 : l[n].f0 = 4
   ·simp only [h4, if_true, beq_self_eq_true, Bool.true_and]
    exact ih'
   ·have : (l[n].f0 == 4) = false := beq_eq_false_iff_ne.mpr h4
    simp only [h4, if_false, this, Bool.false_and, Bool.and_false]
    exact Ev.now _
theorem worth_f (k : Int) : glossaryref07_worth.f k = some (worthK k) := by
 unfold glossaryref07_worth.f worthK
 by_cases h : 20 ≤ k
 ·rw [if_pos h]; simp [h]
 ·rw [if_neg h]; simp [h]
theorem E_opt (l : List S24) (hl : l.length ≤ 5000) : ∀ (m n : Nat), n + m = l.length →
  Ev (fun k => optL k l (n : Int)) (((l.drop n).take (l.length - 1 - n)).all (fun y => inB [19] y.f0) && (decide (2 ≤ l.length) && worthK (rd_T24 l (l.length - 1)).f0)) := by
 intro m
 induction m with
 | zero =>
  intro n hn
  rw [List.drop_eq_nil_of_le (by omega)]
  refine Ev.suc fun k => ?_
  simp only [optL]
  rw [if_neg (by omega)]
  by_cases h : 2 ≤ l.length
  ·have hw : wrap64 ((l.length : Int) - 1) = (l.length : Int) - 1 := by unfold wrap64; omega
   rw [if_pos h, hw, if_pos (by omega), worth_f]
   simp [h]
  ·rw [if_neg h]
   simp [h]
 | succ m ihm =>
  intro n hn
  have hlt : n < l.length := by omega
  have ih := ihm (n + 1) (by omega)
  have hw : wrap64 ((l.length : Int) - 1) = (l.length : Int) - 1 := by unfold wrap64; omega
  by_cases h : n < l.length - 1
  ·have e1 : (l.drop n).take (l.length - 1 - n) = l[n] :: (l.drop (n + 1)).take (l.length - 1 - (n + 1)) := by
    rw [List.drop_eq_getElem_cons hlt, show l.length - 1 - n = l.length - 1 - (n + 1) + 1 by omega, List.take_succ_cons]
   rw [e1, List.all_cons]
   refine Ev.step (f := fun k => if l[n].f0 = 19 then optL k l ((n + 1 : Nat) : Int) else some false) (fun k => ?_) ?_
   ·simp only [optL]
    rw [if_pos (by omega), if_pos (by omega), hw, if_pos (by omega), rd_at _ n hlt, w1 n (by omega)]
   ·simp only [inB_cons, inB_nil, Bool.or_false]
    simp only [inB_cons, inB_nil, Bool.or_false] at ih
    by_cases h19 : l[n].f0 = 19
    ·simp only [h19, if_true, beq_self_eq_true, Bool.true_and]
     exact ih
    ·have : (l[n].f0 == 19) = false := beq_eq_false_iff_ne.mpr h19
     simp only [h19, if_false, this, Bool.false_and]
     exact Ev.now _
  ·refine Ev.step (f := fun k => optL k l ((n + 1 : Nat) : Int)) (fun k => ?_) ?_
   ·simp only [optL]
    rw [if_pos (by omega), if_pos (by omega), hw, if_neg (by omega), w1 n (by omega)]
   ·rw [show l.length - 1 - n = 0 by omega, List.take_zero]
    rw [show l.length - 1 - (n + 1) = 0 by omega, List.take_zero] at ih
    exact ih
theorem E_res (l : List S24) (hl : l.length ≤ 5000) : ∀ (m n : Nat), n + m = l.length →
  Ev (fun k => resL k l (n : Int)) ((l.drop n).all (fun y => inB [14, 15] y.f0 && (y.f0 == (rd_T24 l 0).f0)) && decide (0 < l.length)) := by
 intro m
 induction m with
 | zero =>
  intro n hn
  rw [List.drop_eq_nil_of_le (by omega)]
  refine Ev.suc fun k => ?_
  simp only [resL]
  rw [if_neg (by omega)]
  simp
 | succ m ihm =>
  intro n hn
  have hlt : n < l.length := by omega
  have ih := ihm (n + 1) (by omega)
  rw [List.drop_eq_getElem_cons hlt, List.all_cons]
  refine Ev.step (f := fun k => if l[n].f0 ≠ 14 ∧ l[n].f0 ≠ 15 then some false else if l[n].f0 ≠ (rd_T24 l 0).f0 then some false else resL k l ((n + 1 : Nat) : Int)) (fun k => ?_) ?_
  ·simp only [resL]
   rw [if_pos (by omega), if_pos (by omega), rd_at _ n hlt, w1 n (by omega)]
  ·by_cases h1 : l[n].f0 ≠ 14 ∧ l[n].f0 ≠ 15
   ·have : inB [14, 15] l[n].f0 = false := by simp [inB_cons, inB_nil, h1.1, h1.2]
    rw [this]
    exact Ev.all fun k => if_pos h1
   ·have : inB [14, 15] l[n].f0 = true := by
     simp only [inB_cons, inB_nil]
     by_cases a : l[n].f0 = 14 <;> by_cases b : l[n].f0 = 15 <;> simp_all
    rw [this]
    simp only [h1, if_false, Bool.true_and]
    by_cases h2 : l[n].f0 = (rd_T24 l 0).f0
    ·have : (l[n].f0 == (rd_T24 l 0).f0) = true := beq_iff_eq.mpr h2
     rw [this]
     simp only [h2, ne_eq, not_true_eq_false, if_false, Bool.true_and]
     exact ih
    ·have : (l[n].f0 == (rd_T24 l 0).f0) = false := beq_eq_false_iff_ne.mpr h2
     rw [this]
     simp only [h2, ne_eq, not_false_eq_true, if_true, Bool.false_and]
     exact Ev.now _
end Go.Proofs.YtdkepckkihclgaaGreatDoor.PNodeChecks
namespace Go.Proofs.YtdkepckkihclgaaGreatDoor.PNodeChecks
open Go.RowKit Go.Proofs.YtdkepckkihclgaaGreatDoorW.PrintWords Go.Proofs.YtdkepckkihclgaaGreatDoorW.PrintLast Go.Proofs.YtdkepckkihclgaaGreatDoorW.PrintMore
set_option linter.unusedVariables false
set_option linter.unusedSimpArgs false
theorem allIn_kinds (ks : List Int) (h : ∀ a ∈ ks, 1 ≤ a ∧ a ≤ 24) (l : List S24) (hl : l.all (fun y => inB ks y.f0) = true) : ∀ y ∈ l, 1 ≤ y.f0 ∧ y.f0 ≤ 24 := by
 intro y hy
 have := List.all_eq_true.1 hl y hy
 unfold inB at this
 exact h _ (of_decide_eq_true this)
def KA (kd : Int) (l : List S24) : Prop := ∃ b, Ev (fun k => kidsB k kd l) b ∧ Ev (fun k => rkB k kd l) b ∧ (b = true → ∀ y ∈ l, 1 ≤ y.f0 ∧ y.f0 ≤ 24)
theorem in28 (k : Int) : (decide (2 ≤ k) && decide (k ≤ 8)) = inB [2, 3, 4, 5, 6, 7, 8] k := by
 rw [Bool.eq_iff_iff]
 unfold inB
 simp
 omega
theorem ka1 (l : List S24) (hl : cntS l ≤ 4000) : KA 1 l := by
 have hll := len_cnt l
 have e := E_kaB 1 l (by omega)
 have hk : kaB 1 l = (l.all (fun y => inB [2, 3, 4, 5, 6, 7, 8] y.f0) && decide (pk l ≤ 1)) := by
  unfold kaB
  rw [all_and, lab_true (by decide)]
  have : l.all (fun y => mayB 1 y.f0) = l.all (fun y => inB [2, 3, 4, 5, 6, 7, 8] y.f0) := all_sub l _ _ (fun y _ => by rw [← in28]; rfl)
  rw [this]
  simp
 rw [hk] at e
 refine ⟨_, ?_, Ev.congr (fun k => rfl) e, fun hb => allIn_kinds [2, 3, 4, 5, 6, 7, 8] (by decide) l (by rw [Bool.and_eq_true] at hb; exact hb.1)⟩
 obtain ⟨zs, h1, h2⟩ := of_ends 3 l (by omega) l.length 0 [] (Nat.zero_add _) (Nat.le_refl _)
 rw [List.drop_zero] at h2
 have hz : zs.length = pk l := by rw [h2]; simp [pk]
 refine Ev.congr (f := fun k => fileKids k l) (fun k => rfl) ?_
 unfold fileKids allIn
 cases l.all (fun y => inB [2, 3, 4, 5, 6, 7, 8] y.f0) with
 | false => exact Ev.now _
 | true =>
  simp only [if_true, Bool.true_and]
  rw [← hz]
  exact Ev.map (fun zs : List S24 => decide (zs.length ≤ 1)) h1
theorem ka_plain (kd : Int) (ks : List Int) (l : List S24) (hl : l.length ≤ 5000) (h1 : ∀ k, kidsB k kd l = some (allIn ks l)) (h2 : ∀ k, rkB k kd l = kaL k kd l 0 0) (h11 : kd ≠ 11) (h12 : kd ≠ 12) (h3 : mayB kd 3 = false) (hm : ∀ a, mayB kd a = inB ks a) (hk : ∀ a ∈ ks, 1 ≤ a ∧ a ≤ 24) : KA kd l := by
 have e := E_kaB kd l hl
 rw [kaB_plain h11 h12 h3] at e
 have : l.all (fun y => mayB kd y.f0) = allIn ks l := all_sub l _ _ (fun y _ => hm _)
 rw [this] at e
 exact ⟨_, Ev.all h1, Ev.congr h2 e, fun hb => allIn_kinds ks hk l hb⟩
theorem ka11 (l : List S24) (hl : l.length ≤ 5000) : KA 11 l := by
 have e := E_kaB 11 l hl
 have hk : kaB 11 l = (l.all (labB 11) && allIn [9, 4] l) := by
  unfold kaB
  rw [all_and]
  have : l.all (fun y => mayB 11 y.f0) = allIn [9, 4] l := all_sub l _ _ (fun y _ => rfl)
  rw [this]
  cases ha : allIn [9, 4] l with
  | false => simp
  | true => rw [pk_zero (kd := 11) (by decide) l (by rw [this]; exact ha)]; simp
 rw [hk] at e
 have e2 := lab_ends l hl l.length 0 (Nat.zero_add _)
 rw [List.drop_zero] at e2
 refine ⟨_, Ev.congr (f := fun k => (noLab k l 0).map fun b => b && allIn [9, 4] l) (fun k => rfl) (Ev.map (fun b => b && allIn [9, 4] l) e2), Ev.congr (fun k => rfl) e, fun hb => allIn_kinds [9, 4] (by decide) l (by rw [Bool.and_eq_true] at hb; exact hb.2)⟩
theorem oneIn_eq (ks : List Int) (l : List S24) : oneIn ks l = (l.all (fun y => inB ks y.f0 && (y.f0 == (rd_T24 l 0).f0)) && decide (0 < l.length)) := by
 unfold oneIn allIn
 by_cases h : 0 < l.length
 ·simp only [h, decide_true, Bool.true_and, Bool.and_true]
  have h0 : (rd_T24 l 0) ∈ l := by rw [rd0 h]; exact List.getElem_mem h
  rw [Bool.eq_iff_iff, Bool.and_eq_true, List.all_eq_true, List.all_eq_true]
  simp only [inB_cons, inB_nil, Bool.or_false]
  constructor
  ·rintro ⟨a, b⟩ y hy
   have := b y hy
   rw [beq_iff_eq] at this
   rw [this, a]; simp
  ·intro a
   refine ⟨?_, fun y hy => ?_⟩
   ·have := a _ h0
    rw [Bool.and_eq_true] at this
    exact this.1
   ·have := a y hy
    rw [Bool.and_eq_true] at this
    exact this.2
 ·simp [h]
theorem ka12 (l : List S24) (hl : l.length ≤ 5000) : KA 12 l := by
 have e := E_kaB 12 l hl
 have hk : kaB 12 l = oneIn [14] l := by
  rw [oneIn_eq]
  unfold kaB
  rw [all_and, lab_true (by decide)]
  have : l.all (fun y => mayB 12 y.f0) = l.all (fun y => inB [14] y.f0) := all_sub l _ _ (fun y _ => rfl)
  cases ha : l.all (fun y => inB [14] y.f0) with
  | false =>
   rw [this, ha, all_and, ha]; rfl
  | true =>
   rw [this, ha, pk_zero (kd := 12) (by decide) l (by rw [this]; exact ha), all_and, ha]
   by_cases h : 0 < l.length
   ·have : l.all (fun y => y.f0 == (rd_T24 l 0).f0) = true := by
     rw [List.all_eq_true]
     intro y hy
     have a1 := List.all_eq_true.1 ha y hy
     have a2 := List.all_eq_true.1 ha (rd_T24 l 0) (by rw [rd0 h]; exact List.getElem_mem h)
     simp only [inB_cons, inB_nil, Bool.or_false, beq_iff_eq] at a1 a2 ⊢
     rw [a1, a2]
    rw [this]; simp [h]
   ·simp [h]
 rw [hk] at e
 refine ⟨_, Ev.all (fun k => rfl), Ev.congr (fun k => rfl) e, fun hb => ?_⟩
 rw [oneIn_eq, Bool.and_eq_true, all_and, Bool.and_eq_true] at hb
 exact allIn_kinds [14] (by decide) l hb.1.1
theorem ka13 (l : List S24) (hl : l.length ≤ 5000) : KA 13 l := by
 have e := E_res l hl l.length 0 (Nat.zero_add _)
 rw [List.drop_zero, ← oneIn_eq] at e
 refine ⟨_, Ev.all (fun k => rfl), Ev.congr (fun k => rfl) e, fun hb => ?_⟩
 rw [oneIn_eq, Bool.and_eq_true, all_and, Bool.and_eq_true] at hb
 exact allIn_kinds [14, 15] (by decide) l hb.1.1
theorem worthK_le (k : Int) (h : worthK k = true) : 1 ≤ k ∧ k ≤ 24 := by
 unfold worthK at h
 simp at h
 omega
theorem ka4 (l : List S24) (hl : l.length ≤ 5000) : KA 4 l := by
 have e := E_opt l hl l.length 0 (Nat.zero_add _)
 rw [List.drop_zero, Nat.sub_zero] at e
 have hk : ((l.take (l.length - 1)).all (fun y => inB [19] y.f0) && (decide (2 ≤ l.length) && worthK (rd_T24 l (l.length - 1)).f0)) = optIn l := by
  unfold optIn allIn
  cases decide (2 ≤ l.length) <;> simp
 rw [hk] at e
 refine ⟨_, Ev.all (fun k => rfl), Ev.congr (fun k => rfl) e, fun hb y hy => ?_⟩
 rw [← hk] at hb
 simp only [Bool.and_eq_true, decide_eq_true_eq] at hb
 obtain ⟨h1, h2, h3⟩ := hb
 obtain ⟨i, hi, rfl⟩ := List.getElem_of_mem hy
 by_cases hlast : i < l.length - 1
 ·refine allIn_kinds [19] (by decide) _ h1 _ ?_
  rw [List.mem_take_iff_getElem]
  exact ⟨i, by omega, rfl⟩
 ·obtain rfl : i = l.length - 1 := by omega
  have := worthK_le _ h3
  rw [show ((l.length : Int) - 1) = ((l.length - 1 : Nat) : Int) by omega, rd_at l _ hi] at this
  exact this
theorem typed_kinds (nd : Nat) (l : List S24) (h : typedIn nd l = true) : ∀ y ∈ l, 1 ≤ y.f0 ∧ y.f0 ≤ 24 := by
 unfold typedIn allIn at h
 simp only [Bool.and_eq_true] at h
 intro y hy
 rw [← List.take_append_drop nd l, List.mem_append] at hy
 rcases hy with hy | hy
 ·exact allIn_kinds [18] (by decide) _ h.2.1 y hy
 ·exact allIn_kinds [4] (by decide) _ h.2.2 y hy
theorem typed_eq (nd : Nat) (l : List S24) (e : Bool) : ((l.take nd).all (fun y => inB [18] y.f0) && ((l.drop nd).all (fun y => inB [4] y.f0) && (decide (nd ≤ l.length) && e))) = (typedIn nd l && e) := by
 unfold typedIn allIn
 cases decide (nd ≤ l.length) <;> cases e <;> simp
theorem E_typed (nd : Nat) (hnd : 0 < nd) (l : List S24) (hl : l.length ≤ 5000) (g : Nat → Option Bool) (e : Bool) (he : Ev g (decide (nd ≤ l.length) && e)) : Ev (fun k => knL k (nd : Int) l 0 (g k)) (typedIn nd l && e) := by
 have := E_kn nd l hl g _ he hnd l.length 0 (Nat.zero_add _)
 rw [List.drop_zero, Nat.sub_zero, Nat.zero_max, typed_eq] at this
 exact this
theorem ka_typed (nd : Nat) (hnd : 0 < nd) (kd : Int) (l : List S24) (hl : l.length ≤ 5000) (h1 : ∀ k, kidsB k kd l = some (typedIn nd l)) (h2 : ∀ k, rkB k kd l = knL k (nd : Int) l 0 (some (decide (nd ≤ l.length)))) : KA kd l := by
 have := E_typed nd hnd l hl (fun _ => some (decide (nd ≤ l.length))) true (by rw [Bool.and_true]; exact Ev.now _)
 rw [Bool.and_true] at this
 exact ⟨_, Ev.all h1, Ev.congr h2 this, fun hb => typed_kinds nd l hb⟩
theorem ka10 (l : List S24) (hl : l.length ≤ 5000) : KA 10 l := by
 obtain ⟨r, hr, hf⟩ := E_word (rd_T24 l 0).f1
 have he : Ev (fun k => rword k l) (decide (2 ≤ l.length) && plainB (rd_T24 l 0).f1) := by
  unfold rword
  by_cases h : 2 ≤ l.length
  ·simp only [h, if_true, decide_true, Bool.true_and]
   rw [← hf]
   exact Ev.map (fun v : Int => v != 0) hr
  ·simp only [h, if_false, decide_false, Bool.false_and]
   exact Ev.now _
 have := E_typed 2 (by decide) l hl (fun k => rword k l) _ he
 refine ⟨_, Ev.all (fun k => rfl), Ev.congr (fun k => rfl) this, fun hb => ?_⟩
 have hb : (typedIn 2 l && plainB (rd_T24 l 0).f1) = true := hb
 rw [Bool.and_eq_true] at hb
 exact typed_kinds 2 l hb.1
theorem ka_none (kd : Int) (l : List S24) (h1 : ∀ k, kidsB k kd l = some (decide (l.length = 0))) (h2 : ∀ k, rkB k kd l = knL k 0 l 0 (some (decide (0 ≤ l.length)))) : KA kd l := by
 refine ⟨_, Ev.all h1, Ev.congr h2 (Ev.suc fun k => ?_), fun hb y hy => ?_⟩
 ·simp only [knL]
  by_cases h : l.length = 0
  ·rw [if_neg (by omega)]; simp [h]
  ·rw [if_pos (by omega), if_pos (by omega), if_pos trivial]; simp [h]
 ·have := of_decide_eq_true hb
  rw [List.eq_nil_of_length_eq_zero this] at hy
  cases hy
theorem ka24 (l : List S24) : KA 24 l := by
 refine ⟨soleKid l, Ev.all (fun k => rfl), Ev.all fun k => ?_, fun hb y hy => ?_⟩
 ·show rsole l = _
  unfold rsole soleKid
  by_cases h : l.length = 1
  ·rw [if_pos h, worth_f]; simp [h]
  ·rw [if_neg h]; simp [h]
 ·unfold soleKid at hb
  simp only [Bool.and_eq_true, decide_eq_true_eq] at hb
  obtain ⟨i, hi, rfl⟩ := List.getElem_of_mem hy
  have hi0 : i = 0 := by omega
  subst hi0
  have := worthK_le _ hb.2
  rw [rd0 hi] at this
  exact this
theorem kids_agree (kd : Int) (h : 1 ≤ kd ∧ kd ≤ 24) (l : List S24) (hl : cntS l ≤ 4000) : KA kd l := by
 have hll := len_cnt l
 have h5 : l.length ≤ 5000 := by omega
 have : kd = 1 ∨ kd = 2 ∨ kd = 3 ∨ kd = 4 ∨ kd = 5 ∨ kd = 6 ∨ kd = 7 ∨ kd = 8 ∨ kd = 9 ∨ kd = 10 ∨ kd = 11 ∨ kd = 12 ∨ kd = 13 ∨ kd = 14 ∨ kd = 15 ∨ kd = 16 ∨ kd = 17 ∨ kd = 18 ∨ kd = 19 ∨ kd = 20 ∨ kd = 21 ∨ kd = 22 ∨ kd = 23 ∨ kd = 24 := by omega
 rcases this with rfl | rfl | rfl | rfl | rfl | rfl | rfl | rfl | rfl | rfl | rfl | rfl | rfl | rfl | rfl | rfl | rfl | rfl | rfl | rfl | rfl | rfl | rfl | rfl
 ·exact ka1 l hl
 ·exact ka_none 2 l (fun k => rfl) (fun k => rfl)
 ·exact ka_none 3 l (fun k => rfl) (fun k => rfl)
 ·exact ka4 l h5
 ·exact ka_plain 5 [9, 10, 5, 6, 7, 12, 13, 11, 4] l h5 (fun k => rfl) (fun k => rfl) (by decide) (by decide) (by decide) (fun a => rfl) (by decide)
 ·exact ka_plain 6 [16, 4] l h5 (fun k => rfl) (fun k => rfl) (by decide) (by decide) (by decide) (fun a => rfl) (by decide)
 ·exact ka_plain 7 [9] l h5 (fun k => rfl) (fun k => rfl) (by decide) (by decide) (by decide) (fun a => rfl) (by decide)
 ·exact ka_plain 8 [17, 4] l h5 (fun k => rfl) (fun k => rfl) (by decide) (by decide) (by decide) (fun a => rfl) (by decide)
 ·exact ka_typed 1 (by decide) 9 l h5 (fun k => rfl) (fun k => rfl)
 ·exact ka10 l h5
 ·exact ka11 l h5
 ·exact ka12 l h5
 ·exact ka13 l h5
 ·exact ka_none 14 l (fun k => rfl) (fun k => rfl)
 ·exact ka_none 15 l (fun k => rfl) (fun k => rfl)
 ·exact ka_plain 16 [4] l h5 (fun k => rfl) (fun k => rfl) (by decide) (by decide) (by decide) (fun a => rfl) (by decide)
 ·exact ka_typed 2 (by decide) 17 l h5 (fun k => rfl) (fun k => rfl)
 ·exact ka_none 18 l (fun k => rfl) (fun k => rfl)
 ·exact ka_none 19 l (fun k => rfl) (fun k => rfl)
 ·exact ka_none 20 l (fun k => rfl) (fun k => rfl)
 ·exact ka_none 21 l (fun k => rfl) (fun k => rfl)
 ·exact ka_none 22 l (fun k => rfl) (fun k => rfl)
 ·exact ka_plain 23 [24] l h5 (fun k => rfl) (fun k => rfl) (by decide) (by decide) (by decide) (fun a => rfl) (by decide)
 ·exact ka24 l
theorem plain_no46 : plainL.all (fun l => decide (Lib.indexByte l 46 < 0)) = true := by decide +kernel
theorem plain_cut (s : ByteArray) (h : plainB s = true) : cutB s = s := by
 have h1 := (plainB_iff s).1 h
 have h2 : Lib.indexByte s.data.toList 46 < 0 := of_decide_eq_true (List.all_eq_true.1 plain_no46 _ h1)
 unfold cutB Lib.cut
 rw [show (⟨#[46]⟩ : ByteArray).data.toList = [46] from rfl, Lib.index_one, if_neg (by omega)]
theorem plain_key (s : ByteArray) (h : plainB s = true) : keyB s = true := by
 rw [keyB_L, keyL_iff]
 exact List.mem_append.2 (Or.inr ((plainB_iff s).1 h))
theorem plain_pref (s : ByteArray) (h : plainB s = true) : prefB s ⟨#[46]⟩ = false := by
 have h1 := (plainB_iff s).1 h
 have h2 := of_decide_eq_true (List.all_eq_true.1 plain_no46 _ h1)
 unfold prefB Lib.hasPrefix
 cases hl : s.data.toList with
 | nil => rfl
 | cons c l =>
  rw [show L s = c :: l from hl] at h2
  show ((46 : UInt8) == c && List.isPrefixOf [] l) = false
  by_cases e : c = 46
  ·subst e
   unfold Lib.indexByte at h2
   simp at h2
  ·have : ((46 : UInt8) == c) = false := beq_eq_false_iff_ne.mpr (fun q => e q.symm)
   rw [this]; rfl
def typeV (s : ByteArray) : Bool × Bool := if prefB s ⟨#[46]⟩ = true then (refB s, true) else if plainB s = true then (true, false) else (fullB s && !(keyB (cutB s)), true)
theorem typeV_named (s : ByteArray) : ((typeV s).1 && (typeV s).2) = namedB s := by
 unfold typeV namedB
 cases hp : prefB s ⟨#[46]⟩ with
 | true => simp
 | false =>
  cases hb : plainB s with
  | true => rw [plain_cut s hb, plain_key s hb]; simp
  | false => simp
theorem typeV_type (s : ByteArray) : (typeV s).1 = (plainB s || namedB s) := by
 unfold typeV namedB
 cases hp : prefB s ⟨#[46]⟩ with
 | true =>
  have : plainB s = false := by
   cases hb : plainB s with
   | false => rfl
   | true => rw [plain_pref s hb] at hp; exact absurd hp (by decide)
  simp [this]
 | false => cases hb : plainB s <;> simp
def TA (kd : Int) (x : S24) (i3 : Bool) : Prop := ∃ b, Ev (fun k => textB k kd x) b ∧ Ev (fun k => rtB k kd x i3 (typeV x.f1).1 (typeV x.f1).2) b
theorem text_kinds (x : S24) (hs : x.f1.size ≤ 2000) (i : Int × Bool × Bool) (hi : Ev (fun k => node_Int.f k x.f1) i) (kd : Int) (h : 1 ≤ kd ∧ kd ≤ 24) : TA kd x i.2.2 := by
 have hid : Ev (fun k => glossaryref05_Ident.f k x.f1) (identB x.f1) := E_ident x.f1 (by omega)
 have : kd = 1 ∨ kd = 2 ∨ kd = 3 ∨ kd = 4 ∨ kd = 5 ∨ kd = 6 ∨ kd = 7 ∨ kd = 8 ∨ kd = 9 ∨ kd = 10 ∨ kd = 11 ∨ kd = 12 ∨ kd = 13 ∨ kd = 14 ∨ kd = 15 ∨ kd = 16 ∨ kd = 17 ∨ kd = 18 ∨ kd = 19 ∨ kd = 20 ∨ kd = 21 ∨ kd = 22 ∨ kd = 23 ∨ kd = 24 := by omega
 rcases this with rfl | rfl | rfl | rfl | rfl | rfl | rfl | rfl | rfl | rfl | rfl | rfl | rfl | rfl | rfl | rfl | rfl | rfl | rfl | rfl | rfl | rfl | rfl | rfl
 ·exact ⟨_, Ev.all (fun k => rfl), Ev.all (fun k => rfl)⟩
 ·exact ⟨_, Ev.all (fun k => rfl), Ev.all (fun k => rfl)⟩
 ·exact ⟨_, Ev.all (fun k => rfl), Ev.congr (fun k => rfl) (E_full x.f1 (by omega))⟩
 ·exact ⟨_, Ev.all (fun k => rfl), Ev.all (fun k => rfl)⟩
 ·exact ⟨_, Ev.all (fun k => rfl), Ev.congr (fun k => rfl) hid⟩
 ·exact ⟨_, Ev.all (fun k => rfl), Ev.congr (fun k => rfl) hid⟩
 ·exact ⟨_, Ev.all (fun k => rfl), Ev.all (fun k => congrArg some (typeV_named x.f1))⟩
 ·exact ⟨_, Ev.all (fun k => rfl), Ev.congr (fun k => rfl) hid⟩
 ·exact ⟨_, Ev.all (fun k => rfl), Ev.congr (fun k => rfl) hid⟩
 ·exact ⟨_, Ev.all (fun k => rfl), Ev.congr (fun k => rfl) hid⟩
 ·exact ⟨_, Ev.all (fun k => rfl), Ev.congr (fun k => rfl) hid⟩
 ·exact ⟨_, Ev.all (fun k => rfl), Ev.all (fun k => rfl)⟩
 ·exact ⟨_, Ev.all (fun k => rfl), Ev.all (fun k => rfl)⟩
 ·exact ⟨_, Ev.all (fun k => rfl), Ev.all (fun k => rfl)⟩
 ·exact ⟨_, Ev.all (fun k => rfl), Ev.congr (fun k => rfl) hid⟩
 ·exact ⟨_, Ev.all (fun k => rfl), Ev.congr (fun k => rfl) (Ev.map (fun b => b && (!(x.f1.toList == ([111, 112, 116, 105, 111, 110] : List UInt8)) && !(x.f1.toList == ([114, 101, 115, 101, 114, 118, 101, 100] : List UInt8)))) hid)⟩
 ·exact ⟨_, Ev.all (fun k => rfl), Ev.congr (fun k => rfl) hid⟩
 ·exact ⟨_, Ev.all (fun k => rfl), Ev.all (fun k => congrArg some (typeV_type x.f1))⟩
 ·refine ⟨if (x.f4 == 1) = true then refB x.f1 else identB x.f1, Ev.all (fun k => rfl), Ev.congr (f := fun k => if (x.f4 == 1) = true then glossaryref07_ref.f k x.f1 else glossaryref05_Ident.f k x.f1) (fun k => rfl) ?_⟩
  cases (x.f4 == 1) with
  | false => exact hid
  | true => exact E_ref x.f1 hs
 ·exact ⟨_, Ev.congr (fun k => rfl) (Ev.map (fun t : Int × Bool × Bool => t.2.2) hi), Ev.all (fun k => rfl)⟩
 ·exact ⟨_, Ev.all (fun k => rfl), Ev.congr (fun k => rfl) hid⟩
 ·exact ⟨_, Ev.all (fun k => rfl), Ev.all (fun k => rfl)⟩
 ·exact ⟨_, Ev.all (fun k => rfl), Ev.all (fun k => rfl)⟩
 ·refine ⟨if (x.f4 == 1) = true then refB x.f1 else identB x.f1, Ev.all (fun k => rfl), Ev.congr (f := fun k => if (x.f4 == 1) = true then glossaryref07_ref.f k x.f1 else glossaryref05_Ident.f k x.f1) (fun k => rfl) ?_⟩
  cases (x.f4 == 1) with
  | false => exact hid
  | true => exact E_ref x.f1 hs
theorem text_agree (x : S24) (hs : x.f1.size ≤ 2000) (h : 1 ≤ x.f0 ∧ x.f0 ≤ 24) : ∃ b, Ev (fun k => textB k x.f0 x) b ∧ Ev (fun k => glossaryref07_text.f k x.f0 x.f1 x.f2 x.f3 x.f4 x.f5 x.f6 x.f7) b := by
 obtain ⟨i, h1, h2⟩ := E_int x.f1 (by omega)
 obtain ⟨b, t1, t2⟩ := text_kinds x hs i h1 x.f0 h
 have e : ∀ k, glossaryref07_text.f k x.f0 x.f1 x.f2 x.f3 x.f4 x.f5 x.f6 x.f7 = refText k x := fun k => by cases x; rfl
 refine ⟨b, t1, Ev.congr e ?_⟩
 unfold refText
 refine Ev.bind h2 (Ev.bind (E_type x.f1 hs) ?_)
 exact t2
set_option maxHeartbeats 4000000 in
theorem num_agree (x : S24) (h : 1 ≤ x.f0 ∧ x.f0 ≤ 24) : ∃ b, Ev (fun k => numsB k x.f0 x) b ∧ Ev (fun k => glossaryref07_number.f k x.f0 x.f1 x.f2 x.f3 x.f4 x.f5 x.f6 x.f7) b := by
 obtain ⟨f0, f1, f2, f3, f4, f5, f6, f7⟩ := x
 simp only at h ⊢
 have : f0 = 1 ∨ f0 = 2 ∨ f0 = 3 ∨ f0 = 4 ∨ f0 = 5 ∨ f0 = 6 ∨ f0 = 7 ∨ f0 = 8 ∨ f0 = 9 ∨ f0 = 10 ∨ f0 = 11 ∨ f0 = 12 ∨ f0 = 13 ∨ f0 = 14 ∨ f0 = 15 ∨ f0 = 16 ∨ f0 = 17 ∨ f0 = 18 ∨ f0 = 19 ∨ f0 = 20 ∨ f0 = 21 ∨ f0 = 22 ∨ f0 = 23 ∨ f0 = 24 := by omega
 rcases this with rfl | rfl | rfl | rfl | rfl | rfl | rfl | rfl | rfl | rfl | rfl | rfl | rfl | rfl | rfl | rfl | rfl | rfl | rfl | rfl | rfl | rfl | rfl | rfl
 ·exact ⟨_, Ev.all (fun k => rfl), Ev.suc (fun k => rfl)⟩
 ·exact ⟨_, Ev.all (fun k => rfl), Ev.suc (fun k => rfl)⟩
 ·exact ⟨_, Ev.all (fun k => rfl), Ev.suc (fun k => rfl)⟩
 ·exact ⟨_, Ev.all (fun k => rfl), Ev.suc (fun k => rfl)⟩
 ·exact ⟨_, Ev.all (fun k => rfl), Ev.suc (fun k => rfl)⟩
 ·exact ⟨_, Ev.all (fun k => rfl), Ev.suc (fun k => rfl)⟩
 ·exact ⟨_, Ev.all (fun k => rfl), Ev.suc (fun k => rfl)⟩
 ·exact ⟨_, Ev.all (fun k => rfl), Ev.suc (fun k => rfl)⟩
 ·refine ⟨_, Ev.all (fun k => rfl), Ev.step (f := fun k => if f2 ≥ 0 then some (decide (f2 < 2147483648)) else some false) (fun k => rfl) (Ev.all fun k => ?_)⟩
  by_cases h1 : 0 ≤ f2 <;> by_cases h2 : f2 ≤ 2147483647 <;> simp [h1, h2] <;> omega
 ·refine ⟨_, Ev.all (fun k => rfl), Ev.step (f := fun k => if f2 ≥ 0 then some (decide (f2 < 2147483648)) else some false) (fun k => rfl) (Ev.all fun k => ?_)⟩
  by_cases h1 : 0 ≤ f2 <;> by_cases h2 : f2 ≤ 2147483647 <;> simp [h1, h2] <;> omega
 ·exact ⟨_, Ev.all (fun k => rfl), Ev.suc (fun k => rfl)⟩
 ·exact ⟨_, Ev.all (fun k => rfl), Ev.suc (fun k => rfl)⟩
 ·exact ⟨_, Ev.all (fun k => rfl), Ev.suc (fun k => rfl)⟩
 ·refine ⟨_, Ev.all (fun k => rfl), Ev.step (f := fun k => if f2 ≥ 0 then (if f2 < 2147483648 then (if f3 ≥ 0 then some (decide (f3 < 2147483648)) else some false) else some false) else some false) (fun k => rfl) (Ev.all fun k => ?_)⟩
  by_cases h1 : 0 ≤ f2 <;> by_cases h2 : f2 < 2147483648 <;> by_cases h3 : 0 ≤ f3 <;> by_cases h4 : f3 < 2147483648 <;> simp [h1, h2, h3, h4] <;> omega
 ·exact ⟨_, Ev.all (fun k => rfl), Ev.suc (fun k => rfl)⟩
 ·refine ⟨_, Ev.all (fun k => rfl), Ev.step (f := fun k => if f2 ≥ (-2147483648) then some (decide (f2 < 2147483648)) else some false) (fun k => rfl) (Ev.all fun k => ?_)⟩
  by_cases h1 : -2147483648 ≤ f2 <;> by_cases h2 : f2 ≤ 2147483647 <;> simp [h1, h2] <;> omega
 ·exact ⟨_, Ev.all (fun k => rfl), Ev.suc (fun k => rfl)⟩
 ·exact ⟨_, Ev.all (fun k => rfl), Ev.suc (fun k => rfl)⟩
 ·exact ⟨_, Ev.all (fun k => rfl), Ev.suc (fun k => rfl)⟩
 ·exact ⟨_, Ev.all (fun k => rfl), Ev.suc (fun k => rfl)⟩
 ·exact ⟨_, Ev.all (fun k => rfl), Ev.suc (fun k => rfl)⟩
 ·exact ⟨_, Ev.all (fun k => rfl), Ev.suc (fun k => rfl)⟩
 ·exact ⟨_, Ev.all (fun k => rfl), Ev.suc (fun k => rfl)⟩
 ·exact ⟨_, Ev.all (fun k => rfl), Ev.suc (fun k => rfl)⟩
end Go.Proofs.YtdkepckkihclgaaGreatDoor.PNodeChecks

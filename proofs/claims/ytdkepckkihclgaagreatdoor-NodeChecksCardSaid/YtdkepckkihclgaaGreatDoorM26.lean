import Derived.Test.YtdkepckkihclgaaGreatDoorM25
namespace Go.Proofs.YtdkepckkihclgaaGreatDoor.PNodeChecks
open Go.RowKit Go.Proofs.YtdkepckkihclgaaGreatDoorW.PrintWords Go.Proofs.YtdkepckkihclgaaGreatDoorW.PrintLast Go.Proofs.YtdkepckkihclgaaGreatDoorW.PrintMore
attribute [local go_sem] max2_int min2_int max_two min_two max_three min_three max_four min_four   -- for this text's walks alone
set_option linter.unusedVariables false
set_option linter.unusedSimpArgs false
theorem MaxAt.alloc {w : World} (h : MaxAt w) (o : Obj) : MaxAt (w.alloc o) := h.below (below_alloc (Below.refl _ w) o)
theorem MaxAt.drewN {w : World} (h : MaxAt w) (n : Nat) : MaxAt (w.drewN n) := h.below (pw_below_drewN (Below.refl _ w) n)
theorem MaxAt.drew {w : World} (h : MaxAt w) : MaxAt w.drew := h.below (below_drew (Below.refl _ w))
def glossarylaw07_awake.f (k : Nat) : Option Bool := some true
theorem glossarylaw07_awake.calls (k : Nat) (r : Bool) (w : World) (hm : MaxAt w) (h : glossarylaw07_awake.f k = some r) : Calls Tryz.prog 4 #[] w fun e w' => e = .returned (.bool r) ∧ Below w.heap.size w w' := by
 obtain rfl := Option.some.inj h
 exact awake_calls w hm
def node_Check.f (k : Nat) (a0_0 : Int) (a0_1 : ByteArray) (a0_2 : Int) (a0_3 : Int) (a0_4 : Int) (a0_5 : Int) (a0_6 : ByteArray) (l0_7 : List (S24)) : Option Bool := checkF k ⟨a0_0, a0_1, a0_2, a0_3, a0_4, a0_5, a0_6, l0_7⟩
theorem node_Check.calls (k : Nat) (a0_0 : Int) (a0_1 : ByteArray) (a0_2 : Int) (a0_3 : Int) (a0_4 : Int) (a0_5 : Int) (a0_6 : ByteArray) (A0_7 : Option Addr) (c0_7 : Nat) (l0_7 : List (S24)) (r : Bool) (w : World) (hr0_7 : Kd.C k24 w A0_7 l0_7.length l0_7) (hc0_7 : l0_7.length ≤ c0_7) (hm : MaxAt w) (h : node_Check.f k a0_0 a0_1 a0_2 a0_3 a0_4 a0_5 a0_6 l0_7 = some r) :
  Calls Tryz.prog 6 #[.agg #[.int .i64 a0_0, .string a0_1, .int .i64 a0_2, .int .i64 a0_3, .int .i64 a0_4, .int .i64 a0_5, .string a0_6, .slice A0_7 l0_7.length c0_7]] w fun e w' => e = .returned (.bool r) ∧ Below w.heap.size w w' := Check_calls k ⟨a0_0, a0_1, a0_2, a0_3, a0_4, a0_5, a0_6, l0_7⟩ A0_7 c0_7 r w hr0_7 hc0_7 hm h
def glossarylaw07_NodeChecks.f (k : Nat) (a0_0 : Int) (a0_1 : ByteArray) (a0_2 : Int) (a0_3 : Int) (a0_4 : Int) (a0_5 : Int) (a0_6 : ByteArray) (l0_7 : List (S24)) : Option (Bool) := (glossarylaw07_awake.f k).bind fun t164 => (if t164 = true then ((glossarylaw07_Few.f k a0_0 a0_1 a0_2 a0_3 a0_4 a0_5 a0_6 l0_7).bind fun t165 => (if t165 = true then ((node_Check.f k a0_0 a0_1 a0_2 a0_3 a0_4 a0_5 a0_6 l0_7).bind fun t166 => ((glossaryref07_Check.f k a0_0 a0_1 a0_2 a0_3 a0_4 a0_5 a0_6 l0_7).bind fun t167 => (some (t166 == t167)))) else (some true))) else (some false))
def glossarylaw07_NodeChecks.T3 : Bool × List (List Nat × List Nat) := (true, [([], []), ([0], [0]), ([1], [1]), ([2, 1], [2]), ([3], [3]), ([4, 3, 3], [3, 4]), ([3], [3]), ([6, 5, 3], [3, 6]), ([5, 7, 3], [3, 5, 7]), ([3, 8], [3, 8]), ([9, 7, 0, 1, 2, 3, 4, 5, 6, 7, 8, 9], [9])])
def glossarylaw07_NodeChecks.B3 : List Nat := [0, 1, 3, 7, 15, 31, 15, 127, 255, 511, 1023]
theorem glossarylaw07_NodeChecks.tab3 : rtab .any (opsOf Tryz.f3 3) = glossarylaw07_NodeChecks.T3 := by kernel_rfl
theorem glossarylaw07_NodeChecks.bits3 : waitsOk glossarylaw07_NodeChecks.T3.2 glossarylaw07_NodeChecks.B3 = true := by kernel_rfl
set_option maxHeartbeats 8000000 in
set_option maxRecDepth 100000 in
theorem glossarylaw07_NodeChecks.calls (k : Nat) (a0_0 : Int) (a0_1 : ByteArray) (a0_2 : Int) (a0_3 : Int) (a0_4 : Int) (a0_5 : Int) (a0_6 : ByteArray) (A0_7 : Option Addr) (c0_7 : Nat) (l0_7 : List (S24)) (r : Bool) (w : World) (hr0_7 : Kd.C k24 w A0_7 l0_7.length l0_7) (hc0_7 : l0_7.length ≤ c0_7) (hm_ : MaxAt w) (h : glossarylaw07_NodeChecks.f k a0_0 a0_1 a0_2 a0_3 a0_4 a0_5 a0_6 l0_7 = some r) :
  Calls Tryz.prog 3 #[.agg #[.int .i64 a0_0, .string a0_1, .int .i64 a0_2, .int .i64 a0_3, .int .i64 a0_4, .int .i64 a0_5, .string a0_6, .slice A0_7 l0_7.length c0_7]] w fun e w' => e = .returned (.bool r) ∧ Below w.heap.size w w' := by
 have hu24 := Tryz.underlying24
 have HR0_7 := Aside0.mk hr0_7
 have HC0_7 := Aside0.mk hc0_7
 clear hr0_7 hc0_7
 have HB := Aside0.mk (Below.refl w.heap.size w)
 have HM := Aside0.mk hm_
 clear hm_
 have H : ((glossarylaw07_awake.f k).bind fun t164 => (if t164 = true then ((glossarylaw07_Few.f k a0_0 a0_1 a0_2 a0_3 a0_4 a0_5 a0_6 l0_7).bind fun t165 => (if t165 = true then ((node_Check.f k a0_0 a0_1 a0_2 a0_3 a0_4 a0_5 a0_6 l0_7).bind fun t166 => ((glossaryref07_Check.f k a0_0 a0_1 a0_2 a0_3 a0_4 a0_5 a0_6 l0_7).bind fun t167 => (some (t166 == t167)))) else (some true))) else (some false))) = some r := h
 clear h
 replace H := Option.bind_eq_some_iff.mp H
 obtain ⟨t164, A20, H⟩ := H
 try dsimp only at H
 have A2 := Aside0.mk A20
 clear A20
 by_cases c3 : t164 = true
 ·subst c3
  rw [if_pos rfl] at H
  replace H := Option.bind_eq_some_iff.mp H
  obtain ⟨t165, A40, H⟩ := H
  try dsimp only at H
  have A4 := Aside0.mk A40
  clear A40
  by_cases c5 : t165 = true
  ·subst c5
   rw [if_pos rfl] at H
   replace H := Option.bind_eq_some_iff.mp H
   obtain ⟨t166, A60, H⟩ := H
   try dsimp only at H
   have A6 := Aside0.mk A60
   clear A60
   replace H := Option.bind_eq_some_iff.mp H
   obtain ⟨t167, A70, H⟩ := H
   try dsimp only at H
   have A7 := Aside0.mk A70
   clear A70
   obtain rfl := Option.some.inj H
   go_enter Tryz.func3, Tryz.ntmps3
   try go_wp2_with (first | ((with_reducible refine gate_dst (N := 1) rfl ?_); refine box_event ?hg (N := 1) ?hd (cs := #[.int .i64 a0_0, .string a0_1, .int .i64 a0_2, .int .i64 a0_3, .int .i64 a0_4, .int .i64 a0_5, .string a0_6, .slice A0_7 l0_7.length c0_7]) (t := 24) ?hr ?_; (case hd => rfl); (case hg => rfl); (case hr => first | (go_simp; done) | (go_simp; rfl)); intro gb163 hg w8 hbox hb; have n0_ := Aside0.mk (below_step (by repeat (first | (with_reducible first | exact HB.out | apply below_alloc | apply pw_below_drewN | apply below_drew1) | exact HB.out)) hb); have n1_ := Aside0.mk (hbox); have n2_ := Aside0.mk ((by rw [hg]; exact (below_size (by repeat (first | (with_reducible first | exact HB.out | apply below_alloc | apply pw_below_drewN | apply below_drew1) | exact HB.out))) : w.heap.size ≤ gb163)); have n3_ := Aside0.mk ((by rw [hg]; exact (below_size (by repeat (first | (with_reducible first | exact HB.out | apply below_alloc | apply pw_below_drewN | apply below_drew1) | exact HB.out))) : w.heap.size ≤ gb163)); clear HB; have HB := n0_; have BK163 := n1_; have GW163 := n2_; have GE163 := n3_; clear n0_ n1_ n2_ n3_; clear hb hbox hg) | ((with_reducible refine gate_callee (f := 4) rfl ?_); refine goesL_ (some 3) rfl rfl Tryz.func4 (by kernel_rfl) rfl #[] rfl (by (try simp only [List.map_toArray, List.map_cons, List.map_nil]); first | done | rfl | (simp only [List.length_drop, List.length_take]; rfl)) ?_; (with_reducible refine (glossarylaw07_awake.calls k  true _ ?sideM A2.out).mono ?_); (case sideM => repeat (first | exact HM.out.below HB.out | (with_reducible refine MaxAt.alloc ?_ _) | (with_reducible refine MaxAt.drewN ?_ _) | (with_reducible refine MaxAt.drew ?_))); rintro e w9 ⟨rfl, hb⟩; refine ⟨_, rfl, ?_⟩; have n0_ := Aside0.mk (blk_below (g := gb163) (o := .cells #[.int .i64 a0_0, .string a0_1, .int .i64 a0_2, .int .i64 a0_3, .int .i64 a0_4, .int .i64 a0_5, .string a0_6, .slice A0_7 l0_7.length c0_7] 24 (0, 0)) (by (with_reducible repeat (first | refine blk_drewN ?_ _ | refine blk_drew ?_ | refine blk_alloc ?_ _)); exact BK163.out) hb); have n1_ := Aside0.mk (below_step (by repeat (first | (with_reducible first | exact HB.out | apply below_alloc | apply pw_below_drewN | apply below_drew1 | refine below_set ?_ GE163.out) | exact HB.out)) hb); clear BK163; clear HB; have BK163 := n0_; have HB := n1_; clear n0_ n1_; (try clear hb); (try clear hb2); (try clear hk); (try clear hi)))
   have n0_ := Aside0.mk (blk_drew BK163.out)
   have n1_ := Aside0.mk (below_drew1 HB.out)
   clear BK163
   clear HB
   have BK163 := n0_
   have HB := n1_
   clear n0_ n1_
   refine start_ (n := 11) (S := fun w' => w'.cell? ⟨gb163, 0, none⟩ = some (.int .i64 a0_0) ∧ w'.cell? ⟨gb163, 1, none⟩ = some (.string a0_1) ∧ w'.cell? ⟨gb163, 2, none⟩ = some (.int .i64 a0_2) ∧ w'.cell? ⟨gb163, 3, none⟩ = some (.int .i64 a0_3) ∧ w'.cell? ⟨gb163, 4, none⟩ = some (.int .i64 a0_4) ∧ w'.cell? ⟨gb163, 5, none⟩ = some (.int .i64 a0_5) ∧ w'.cell? ⟨gb163, 6, none⟩ = some (.string a0_6) ∧ w'.cell? ⟨gb163, 7, none⟩ = some (.slice A0_7 l0_7.length c0_7)) (ds := []) #[false, false, false, false, false, false, false, false, false, false, false] (by kernel_rfl) rfl rfl ⟨(blk_cell BK163.out 0).trans rfl, (blk_cell BK163.out 1).trans rfl, (blk_cell BK163.out 2).trans rfl, (blk_cell BK163.out 3).trans rfl, (blk_cell BK163.out 4).trans rfl, (blk_cell BK163.out 5).trans rfl, (blk_cell BK163.out 6).trans rfl, (blk_cell BK163.out 7).trans rfl⟩ (fun hHeld => ?_); refine with_tabW glossarylaw07_NodeChecks.tab3 glossarylaw07_NodeChecks.bits3 (fun HT_ HW_ => ?_)
   generalize w9.drew = w10 at BK163 HB hHeld ⊢
   refine take_ (i := 0) (N := some 5) (v := ?_) (a' := ?_) #[true, false, false, false, false, false, false, false, false, false, false] rfl rfl (take_ofW HT_.out HW_.out (by kernel_rfl)) (fun _ _ _ h => h) (Or.inl ⟨by rfl, ?_⟩) hHeld ?_ ?_
   rotate_left
   ·rintro w' ⟨s0, s1, s2, s3, s4, s5, s6, s7⟩
    go_simp
    with_reducible rfl
   rotate_left
   ·simp only [Act.put, List.setIfInBounds_toArray, List.set_cons_zero, List.set_cons_succ, i64_w, i32_w]
    rfl
   refine one_ (i := 1) (N := some 6) #[true, true, false, false, false, false, false, false, false, false, false] rfl rfl (one_of HT_.out (by kernel_rfl)) (by decide) (fun K hK => ?_)
   refine goes_ Tryz.func5 (by kernel_rfl) rfl #[.agg #[.int .i64 a0_0, .string a0_1, .int .i64 a0_2, .int .i64 a0_3, .int .i64 a0_4, .int .i64 a0_5, .string a0_6, .slice A0_7 l0_7.length c0_7]] (by rfl) rfl rfl (by (try simp only [List.map_toArray, List.map_cons, List.map_nil]); first | done | rfl | (simp only [List.length_drop, List.length_take]; rfl)) ?_
   with_reducible refine (glossarylaw07_Few.calls k a0_0 a0_1 a0_2 a0_3 a0_4 a0_5 a0_6 _ _ l0_7 true _ ?side1 ?side2 A4.out).mono ?_
   (case side1 => repeat (first | exact (Kd.C_below HR0_7.out HB.out) | (with_reducible refine Kd.C_alloc ?_ _) | (with_reducible refine Kd.C_drewN ?_ _) | (with_reducible refine Kd.C_drew ?_)))
   (case side2 => exact HC0_7.out)
   rintro e w11 ⟨rfl, hb⟩
   refine ⟨_, rfl, ?_⟩
   have n0_ := Aside0.mk (blk_below (g := gb163) (o := .cells #[.int .i64 a0_0, .string a0_1, .int .i64 a0_2, .int .i64 a0_3, .int .i64 a0_4, .int .i64 a0_5, .string a0_6, .slice A0_7 l0_7.length c0_7] 24 (0, 0)) (by (with_reducible repeat (first | refine blk_drewN ?_ _ | refine blk_drew ?_ | refine blk_alloc ?_ _)); exact BK163.out) hb)
   have n1_ := Aside0.mk (below_step (by repeat (first | (with_reducible first | exact HB.out | apply below_alloc | apply pw_below_drewN | apply below_drew1 | refine below_set ?_ GE163.out) | exact HB.out)) hb)
   clear BK163
   clear HB
   have BK163 := n0_
   have HB := n1_
   clear n0_ n1_
   (try clear hb)
   (try clear hb2)
   (try clear hk)
   (try clear hi)
   refine hK.out _ _ ⟨(blk_cell BK163.out 0).trans rfl, (blk_cell BK163.out 1).trans rfl, (blk_cell BK163.out 2).trans rfl, (blk_cell BK163.out 3).trans rfl, (blk_cell BK163.out 4).trans rfl, (blk_cell BK163.out 5).trans rfl, (blk_cell BK163.out 6).trans rfl, (blk_cell BK163.out 7).trans rfl⟩ (fun hHeld => ?_)
   clear hK K
   refine norm_ (a' := ?_) ?_ ?_
   rotate_left
   ·show Act.put _ (some 6) _ = _
    simp only [Act.put, List.setIfInBounds_toArray, List.set_cons_zero, List.set_cons_succ, i64_w, i32_w]
    rfl
   refine pure_ (i := 2) (N := some 7) (v := ?_) (a' := ?_) #[true, true, true, false, false, false, false, false, false, false, false] rfl rfl (any_of HT_.out (by kernel_rfl)) (fun _ _ _ h => h) (Or.inl ⟨by rfl, ?_⟩) ?_ ?_
   rotate_left
   ·intro w'
    go_simp
    with_reducible rfl
   rotate_left
   ·simp only [Act.put, List.setIfInBounds_toArray, List.set_cons_zero, List.set_cons_succ, i64_w, i32_w]
    rfl
   refine pure_ (i := 3) (N := some 8) (v := ?_) (a' := ?_) #[true, true, true, true, false, false, false, false, false, false, false] rfl rfl (any_of HT_.out (by kernel_rfl)) (fun _ _ _ h => h) (Or.inl ⟨by rfl, ?_⟩) ?_ ?_
   rotate_left
   ·intro w'
    go_simp
    with_reducible rfl
   rotate_left
   ·simp only [Act.put, List.setIfInBounds_toArray, List.set_cons_zero, List.set_cons_succ, i64_w, i32_w]
    rfl
   refine take_ (i := 4) (N := some 9) (v := ?_) (a' := ?_) #[true, true, true, true, true, false, false, false, false, false, false] rfl rfl (take_ofW HT_.out HW_.out (by kernel_rfl)) (fun _ _ _ h => h) (Or.inl ⟨by rfl, ?_⟩) hHeld ?_ ?_
   rotate_left
   ·rintro w' ⟨s0, s1, s2, s3, s4, s5, s6, s7⟩
    go_simp
    with_reducible rfl
   rotate_left
   ·simp only [Act.put, List.setIfInBounds_toArray, List.set_cons_zero, List.set_cons_succ, i64_w, i32_w]
    rfl
   refine take_ (i := 6) (N := some 11) (v := ?_) (a' := ?_) #[true, true, true, true, true, false, true, false, false, false, false] rfl rfl (take_ofW HT_.out HW_.out (by kernel_rfl)) (fun _ _ _ h => h) (Or.inl ⟨by rfl, ?_⟩) hHeld ?_ ?_
   rotate_left
   ·rintro w' ⟨s0, s1, s2, s3, s4, s5, s6, s7⟩
    go_simp
    with_reducible rfl
   rotate_left
   ·simp only [Act.put, List.setIfInBounds_toArray, List.set_cons_zero, List.set_cons_succ, i64_w, i32_w]
    rfl
   refine one_ (i := 5) (N := some 10) #[true, true, true, true, true, true, true, false, false, false, false] rfl rfl (one_of HT_.out (by kernel_rfl)) (by decide) (fun K hK => ?_)
   refine goes_ Tryz.func6 (by kernel_rfl) rfl #[.agg #[.int .i64 a0_0, .string a0_1, .int .i64 a0_2, .int .i64 a0_3, .int .i64 a0_4, .int .i64 a0_5, .string a0_6, .slice A0_7 l0_7.length c0_7]] (by rfl) rfl rfl (by (try simp only [List.map_toArray, List.map_cons, List.map_nil]); first | done | rfl | (simp only [List.length_drop, List.length_take]; rfl)) ?_
   with_reducible refine (node_Check.calls k a0_0 a0_1 a0_2 a0_3 a0_4 a0_5 a0_6 _ _ l0_7 t166 _ ?side1 ?side2 ?sideM A6.out).mono ?_
   (case sideM => repeat (first | exact HM.out.below HB.out | (with_reducible refine MaxAt.alloc ?_ _) | (with_reducible refine MaxAt.drewN ?_ _) | (with_reducible refine MaxAt.drew ?_)))
   (case side1 => repeat (first | exact (Kd.C_below HR0_7.out HB.out) | (with_reducible refine Kd.C_alloc ?_ _) | (with_reducible refine Kd.C_drewN ?_ _) | (with_reducible refine Kd.C_drew ?_)))
   (case side2 => exact HC0_7.out)
   rintro e w12 ⟨rfl, hb⟩
   refine ⟨_, rfl, ?_⟩
   have n0_ := Aside0.mk (blk_below (g := gb163) (o := .cells #[.int .i64 a0_0, .string a0_1, .int .i64 a0_2, .int .i64 a0_3, .int .i64 a0_4, .int .i64 a0_5, .string a0_6, .slice A0_7 l0_7.length c0_7] 24 (0, 0)) (by (with_reducible repeat (first | refine blk_drewN ?_ _ | refine blk_drew ?_ | refine blk_alloc ?_ _)); exact BK163.out) hb)
   have n1_ := Aside0.mk (below_step (by repeat (first | (with_reducible first | exact HB.out | apply below_alloc | apply pw_below_drewN | apply below_drew1 | refine below_set ?_ GE163.out) | exact HB.out)) hb)
   clear BK163
   clear HB
   have BK163 := n0_
   have HB := n1_
   clear n0_ n1_
   (try clear hb)
   (try clear hb2)
   (try clear hk)
   (try clear hi)
   refine hK.out _ _ ⟨(blk_cell BK163.out 0).trans rfl, (blk_cell BK163.out 1).trans rfl, (blk_cell BK163.out 2).trans rfl, (blk_cell BK163.out 3).trans rfl, (blk_cell BK163.out 4).trans rfl, (blk_cell BK163.out 5).trans rfl, (blk_cell BK163.out 6).trans rfl, (blk_cell BK163.out 7).trans rfl⟩ (fun hHeld => ?_)
   clear hK K
   refine norm_ (a' := ?_) ?_ ?_
   rotate_left
   ·show Act.put _ (some 10) _ = _
    simp only [Act.put, List.setIfInBounds_toArray, List.set_cons_zero, List.set_cons_succ, i64_w, i32_w]
    rfl
   refine one_ (i := 7) (N := some 12) #[true, true, true, true, true, true, true, true, false, false, false] rfl rfl (one_of HT_.out (by kernel_rfl)) (by decide) (fun K hK => ?_)
   refine goes_ Tryz.func7 (by kernel_rfl) rfl #[.agg #[.int .i64 a0_0, .string a0_1, .int .i64 a0_2, .int .i64 a0_3, .int .i64 a0_4, .int .i64 a0_5, .string a0_6, .slice A0_7 l0_7.length c0_7]] (by rfl) rfl rfl (by (try simp only [List.map_toArray, List.map_cons, List.map_nil]); first | done | rfl | (simp only [List.length_drop, List.length_take]; rfl)) ?_
   with_reducible refine (glossaryref07_Check.calls k a0_0 a0_1 a0_2 a0_3 a0_4 a0_5 a0_6 _ _ l0_7 t167 _ ?side1 ?side2 A7.out).mono ?_
   (case side1 => repeat (first | exact (Kd.C_below HR0_7.out HB.out) | (with_reducible refine Kd.C_alloc ?_ _) | (with_reducible refine Kd.C_drewN ?_ _) | (with_reducible refine Kd.C_drew ?_)))
   (case side2 => exact HC0_7.out)
   rintro e w13 ⟨rfl, hb⟩
   refine ⟨_, rfl, ?_⟩
   have n0_ := Aside0.mk (blk_below (g := gb163) (o := .cells #[.int .i64 a0_0, .string a0_1, .int .i64 a0_2, .int .i64 a0_3, .int .i64 a0_4, .int .i64 a0_5, .string a0_6, .slice A0_7 l0_7.length c0_7] 24 (0, 0)) (by (with_reducible repeat (first | refine blk_drewN ?_ _ | refine blk_drew ?_ | refine blk_alloc ?_ _)); exact BK163.out) hb)
   have n1_ := Aside0.mk (below_step (by repeat (first | (with_reducible first | exact HB.out | apply below_alloc | apply pw_below_drewN | apply below_drew1 | refine below_set ?_ GE163.out) | exact HB.out)) hb)
   clear BK163
   clear HB
   have BK163 := n0_
   have HB := n1_
   clear n0_ n1_
   (try clear hb)
   (try clear hb2)
   (try clear hk)
   (try clear hi)
   refine hK.out _ _ ⟨(blk_cell BK163.out 0).trans rfl, (blk_cell BK163.out 1).trans rfl, (blk_cell BK163.out 2).trans rfl, (blk_cell BK163.out 3).trans rfl, (blk_cell BK163.out 4).trans rfl, (blk_cell BK163.out 5).trans rfl, (blk_cell BK163.out 6).trans rfl, (blk_cell BK163.out 7).trans rfl⟩ (fun hHeld => ?_)
   clear hK K
   refine norm_ (a' := ?_) ?_ ?_
   rotate_left
   ·show Act.put _ (some 12) _ = _
    simp only [Act.put, List.setIfInBounds_toArray, List.set_cons_zero, List.set_cons_succ, i64_w, i32_w]
    rfl
   refine pure_ (i := 8) (N := some 13) (v := ?_) (a' := ?_) #[true, true, true, true, true, true, true, true, true, false, false] rfl rfl (any_of HT_.out (by kernel_rfl)) (fun _ _ _ h => h) (Or.inl ⟨by rfl, ?_⟩) ?_ ?_
   rotate_left
   ·intro w'
    go_simp
    with_reducible rfl
   rotate_left
   ·simp only [Act.put, List.setIfInBounds_toArray, List.set_cons_zero, List.set_cons_succ, i64_w, i32_w]
    rfl
   refine pure_ (i := 9) (N := some 14) (v := ?_) (a' := ?_) #[true, true, true, true, true, true, true, true, true, true, false] rfl rfl (any_of HT_.out (by kernel_rfl)) (fun _ _ _ h => h) (Or.inl ⟨by rfl, ?_⟩) ?_ ?_
   rotate_left
   ·intro w'
    go_simp
    with_reducible rfl
   rotate_left
   ·simp only [Act.put, List.setIfInBounds_toArray, List.set_cons_zero, List.set_cons_succ, i64_w, i32_w]
    rfl
   refine pure_ (i := 10) (N := some 2) (v := ?_) (a' := ?_) #[true, true, true, true, true, true, true, true, true, true, true] rfl rfl (any_of HT_.out (by kernel_rfl)) (fun _ _ _ h => h) (Or.inl ⟨by rfl, ?_⟩) ?_ ?_
   rotate_left
   ·intro w'
    go_simp
    with_reducible rfl
   rotate_left
   ·simp only [Act.put, List.setIfInBounds_toArray, List.set_cons_zero, List.set_cons_succ, i64_w, i32_w]
    rfl
   refine done_ (done_of HT_.out (by kernel_rfl)) ?_
   try go_wp2
   go_ret
   exact ⟨by first | rfl | (simp [errW_none, errW_some] <;> rfl) | (simp [*, errW_none, errW_some] <;> rfl), by repeat (first | (with_reducible first | exact HB.out | apply below_alloc | apply pw_below_drewN | apply below_drew1 | refine below_set ?_ GE163.out) | exact HB.out)⟩
  ·replace c5 := Bool.eq_false_iff.mpr c5
   subst c5
   rw [if_neg (show ¬ (false = true) by decide)] at H
   obtain rfl := Option.some.inj H
   go_enter Tryz.func3, Tryz.ntmps3
   try go_wp2_with (first | ((with_reducible refine gate_dst (N := 1) rfl ?_); refine box_event ?hg (N := 1) ?hd (cs := #[.int .i64 a0_0, .string a0_1, .int .i64 a0_2, .int .i64 a0_3, .int .i64 a0_4, .int .i64 a0_5, .string a0_6, .slice A0_7 l0_7.length c0_7]) (t := 24) ?hr ?_; (case hd => rfl); (case hg => rfl); (case hr => first | (go_simp; done) | (go_simp; rfl)); intro gb163 hg w14 hbox hb; have n0_ := Aside0.mk (below_step (by repeat (first | (with_reducible first | exact HB.out | apply below_alloc | apply pw_below_drewN | apply below_drew1) | exact HB.out)) hb); have n1_ := Aside0.mk (hbox); have n2_ := Aside0.mk ((by rw [hg]; exact (below_size (by repeat (first | (with_reducible first | exact HB.out | apply below_alloc | apply pw_below_drewN | apply below_drew1) | exact HB.out))) : w.heap.size ≤ gb163)); have n3_ := Aside0.mk ((by rw [hg]; exact (below_size (by repeat (first | (with_reducible first | exact HB.out | apply below_alloc | apply pw_below_drewN | apply below_drew1) | exact HB.out))) : w.heap.size ≤ gb163)); clear HB; have HB := n0_; have BK163 := n1_; have GW163 := n2_; have GE163 := n3_; clear n0_ n1_ n2_ n3_; clear hb hbox hg) | ((with_reducible refine gate_callee (f := 4) rfl ?_); refine goesL_ (some 3) rfl rfl Tryz.func4 (by kernel_rfl) rfl #[] rfl (by (try simp only [List.map_toArray, List.map_cons, List.map_nil]); first | done | rfl | (simp only [List.length_drop, List.length_take]; rfl)) ?_; (with_reducible refine (glossarylaw07_awake.calls k  true _ ?sideM A2.out).mono ?_); (case sideM => repeat (first | exact HM.out.below HB.out | (with_reducible refine MaxAt.alloc ?_ _) | (with_reducible refine MaxAt.drewN ?_ _) | (with_reducible refine MaxAt.drew ?_))); rintro e w15 ⟨rfl, hb⟩; refine ⟨_, rfl, ?_⟩; have n0_ := Aside0.mk (blk_below (g := gb163) (o := .cells #[.int .i64 a0_0, .string a0_1, .int .i64 a0_2, .int .i64 a0_3, .int .i64 a0_4, .int .i64 a0_5, .string a0_6, .slice A0_7 l0_7.length c0_7] 24 (0, 0)) (by (with_reducible repeat (first | refine blk_drewN ?_ _ | refine blk_drew ?_ | refine blk_alloc ?_ _)); exact BK163.out) hb); have n1_ := Aside0.mk (below_step (by repeat (first | (with_reducible first | exact HB.out | apply below_alloc | apply pw_below_drewN | apply below_drew1 | refine below_set ?_ GE163.out) | exact HB.out)) hb); clear BK163; clear HB; have BK163 := n0_; have HB := n1_; clear n0_ n1_; (try clear hb); (try clear hb2); (try clear hk); (try clear hi)))
   have n0_ := Aside0.mk (blk_drew BK163.out)
   have n1_ := Aside0.mk (below_drew1 HB.out)
   clear BK163
   clear HB
   have BK163 := n0_
   have HB := n1_
   clear n0_ n1_
   refine start_ (n := 11) (S := fun w' => w'.cell? ⟨gb163, 0, none⟩ = some (.int .i64 a0_0) ∧ w'.cell? ⟨gb163, 1, none⟩ = some (.string a0_1) ∧ w'.cell? ⟨gb163, 2, none⟩ = some (.int .i64 a0_2) ∧ w'.cell? ⟨gb163, 3, none⟩ = some (.int .i64 a0_3) ∧ w'.cell? ⟨gb163, 4, none⟩ = some (.int .i64 a0_4) ∧ w'.cell? ⟨gb163, 5, none⟩ = some (.int .i64 a0_5) ∧ w'.cell? ⟨gb163, 6, none⟩ = some (.string a0_6) ∧ w'.cell? ⟨gb163, 7, none⟩ = some (.slice A0_7 l0_7.length c0_7)) (ds := []) #[false, false, false, false, false, false, false, false, false, false, false] (by kernel_rfl) rfl rfl ⟨(blk_cell BK163.out 0).trans rfl, (blk_cell BK163.out 1).trans rfl, (blk_cell BK163.out 2).trans rfl, (blk_cell BK163.out 3).trans rfl, (blk_cell BK163.out 4).trans rfl, (blk_cell BK163.out 5).trans rfl, (blk_cell BK163.out 6).trans rfl, (blk_cell BK163.out 7).trans rfl⟩ (fun hHeld => ?_); refine with_tabW glossarylaw07_NodeChecks.tab3 glossarylaw07_NodeChecks.bits3 (fun HT_ HW_ => ?_)
   generalize w15.drew = w16 at BK163 HB hHeld ⊢
   refine take_ (i := 0) (N := some 5) (v := ?_) (a' := ?_) #[true, false, false, false, false, false, false, false, false, false, false] rfl rfl (take_ofW HT_.out HW_.out (by kernel_rfl)) (fun _ _ _ h => h) (Or.inl ⟨by rfl, ?_⟩) hHeld ?_ ?_
   rotate_left
   ·rintro w' ⟨s0, s1, s2, s3, s4, s5, s6, s7⟩
    go_simp
    with_reducible rfl
   rotate_left
   ·simp only [Act.put, List.setIfInBounds_toArray, List.set_cons_zero, List.set_cons_succ, i64_w, i32_w]
    rfl
   refine one_ (i := 1) (N := some 6) #[true, true, false, false, false, false, false, false, false, false, false] rfl rfl (one_of HT_.out (by kernel_rfl)) (by decide) (fun K hK => ?_)
   refine goes_ Tryz.func5 (by kernel_rfl) rfl #[.agg #[.int .i64 a0_0, .string a0_1, .int .i64 a0_2, .int .i64 a0_3, .int .i64 a0_4, .int .i64 a0_5, .string a0_6, .slice A0_7 l0_7.length c0_7]] (by rfl) rfl rfl (by (try simp only [List.map_toArray, List.map_cons, List.map_nil]); first | done | rfl | (simp only [List.length_drop, List.length_take]; rfl)) ?_
   with_reducible refine (glossarylaw07_Few.calls k a0_0 a0_1 a0_2 a0_3 a0_4 a0_5 a0_6 _ _ l0_7 false _ ?side1 ?side2 A4.out).mono ?_
   (case side1 => repeat (first | exact (Kd.C_below HR0_7.out HB.out) | (with_reducible refine Kd.C_alloc ?_ _) | (with_reducible refine Kd.C_drewN ?_ _) | (with_reducible refine Kd.C_drew ?_)))
   (case side2 => exact HC0_7.out)
   rintro e w17 ⟨rfl, hb⟩
   refine ⟨_, rfl, ?_⟩
   have n0_ := Aside0.mk (blk_below (g := gb163) (o := .cells #[.int .i64 a0_0, .string a0_1, .int .i64 a0_2, .int .i64 a0_3, .int .i64 a0_4, .int .i64 a0_5, .string a0_6, .slice A0_7 l0_7.length c0_7] 24 (0, 0)) (by (with_reducible repeat (first | refine blk_drewN ?_ _ | refine blk_drew ?_ | refine blk_alloc ?_ _)); exact BK163.out) hb)
   have n1_ := Aside0.mk (below_step (by repeat (first | (with_reducible first | exact HB.out | apply below_alloc | apply pw_below_drewN | apply below_drew1 | refine below_set ?_ GE163.out) | exact HB.out)) hb)
   clear BK163
   clear HB
   have BK163 := n0_
   have HB := n1_
   clear n0_ n1_
   (try clear hb)
   (try clear hb2)
   (try clear hk)
   (try clear hi)
   refine hK.out _ _ ⟨(blk_cell BK163.out 0).trans rfl, (blk_cell BK163.out 1).trans rfl, (blk_cell BK163.out 2).trans rfl, (blk_cell BK163.out 3).trans rfl, (blk_cell BK163.out 4).trans rfl, (blk_cell BK163.out 5).trans rfl, (blk_cell BK163.out 6).trans rfl, (blk_cell BK163.out 7).trans rfl⟩ (fun hHeld => ?_)
   clear hK K
   refine norm_ (a' := ?_) ?_ ?_
   rotate_left
   ·show Act.put _ (some 6) _ = _
    simp only [Act.put, List.setIfInBounds_toArray, List.set_cons_zero, List.set_cons_succ, i64_w, i32_w]
    rfl
   refine pure_ (i := 2) (N := some 7) (v := ?_) (a' := ?_) #[true, true, true, false, false, false, false, false, false, false, false] rfl rfl (any_of HT_.out (by kernel_rfl)) (fun _ _ _ h => h) (Or.inl ⟨by rfl, ?_⟩) ?_ ?_
   rotate_left
   ·intro w'
    go_simp
    with_reducible rfl
   rotate_left
   ·simp only [Act.put, List.setIfInBounds_toArray, List.set_cons_zero, List.set_cons_succ, i64_w, i32_w]
    rfl
   refine pure_ (i := 3) (N := some 8) (v := ?_) (a' := ?_) #[true, true, true, true, false, false, false, false, false, false, false] rfl rfl (any_of HT_.out (by kernel_rfl)) (fun _ _ _ h => h) (Or.inl ⟨by rfl, ?_⟩) ?_ ?_
   rotate_left
   ·intro w'
    go_simp
    with_reducible rfl
   rotate_left
   ·simp only [Act.put, List.setIfInBounds_toArray, List.set_cons_zero, List.set_cons_succ, i64_w, i32_w]
    rfl
   refine pure_ (i := 4) (N := some 9) (v := undef) (a' := ?_) #[true, true, true, true, true, false, false, false, false, false, false] rfl rfl (any_of HT_.out (by kernel_rfl)) (fun _ _ _ h => h) (Or.inr ⟨by rfl, rfl⟩) ?_ ?_
   rotate_left
   ·simp only [Act.put, List.setIfInBounds_toArray, List.set_cons_zero, List.set_cons_succ, i64_w, i32_w]
    rfl
   refine pure_ (i := 5) (N := some 10) (v := undef) (a' := ?_) #[true, true, true, true, true, true, false, false, false, false, false] rfl rfl (any_of HT_.out (by kernel_rfl)) (fun _ _ _ h => h) (Or.inr ⟨by rfl, rfl⟩) ?_ ?_
   rotate_left
   ·simp only [Act.put, List.setIfInBounds_toArray, List.set_cons_zero, List.set_cons_succ, i64_w, i32_w]
    rfl
   refine pure_ (i := 6) (N := some 11) (v := undef) (a' := ?_) #[true, true, true, true, true, true, true, false, false, false, false] rfl rfl (any_of HT_.out (by kernel_rfl)) (fun _ _ _ h => h) (Or.inr ⟨by rfl, rfl⟩) ?_ ?_
   rotate_left
   ·simp only [Act.put, List.setIfInBounds_toArray, List.set_cons_zero, List.set_cons_succ, i64_w, i32_w]
    rfl
   refine pure_ (i := 7) (N := some 12) (v := undef) (a' := ?_) #[true, true, true, true, true, true, true, true, false, false, false] rfl rfl (any_of HT_.out (by kernel_rfl)) (fun _ _ _ h => h) (Or.inr ⟨by rfl, rfl⟩) ?_ ?_
   rotate_left
   ·simp only [Act.put, List.setIfInBounds_toArray, List.set_cons_zero, List.set_cons_succ, i64_w, i32_w]
    rfl
   refine pure_ (i := 8) (N := some 13) (v := undef) (a' := ?_) #[true, true, true, true, true, true, true, true, true, false, false] rfl rfl (any_of HT_.out (by kernel_rfl)) (fun _ _ _ h => h) (Or.inr ⟨by rfl, rfl⟩) ?_ ?_
   rotate_left
   ·simp only [Act.put, List.setIfInBounds_toArray, List.set_cons_zero, List.set_cons_succ, i64_w, i32_w]
    rfl
   refine pure_ (i := 9) (N := some 14) (v := ?_) (a' := ?_) #[true, true, true, true, true, true, true, true, true, true, false] rfl rfl (any_of HT_.out (by kernel_rfl)) (fun _ _ _ h => h) (Or.inl ⟨by rfl, ?_⟩) ?_ ?_
   rotate_left
   ·intro w'
    go_simp
    with_reducible rfl
   rotate_left
   ·simp only [Act.put, List.setIfInBounds_toArray, List.set_cons_zero, List.set_cons_succ, i64_w, i32_w]
    rfl
   refine pure_ (i := 10) (N := some 2) (v := ?_) (a' := ?_) #[true, true, true, true, true, true, true, true, true, true, true] rfl rfl (any_of HT_.out (by kernel_rfl)) (fun _ _ _ h => h) (Or.inl ⟨by rfl, ?_⟩) ?_ ?_
   rotate_left
   ·intro w'
    go_simp
    with_reducible rfl
   rotate_left
   ·simp only [Act.put, List.setIfInBounds_toArray, List.set_cons_zero, List.set_cons_succ, i64_w, i32_w]
    rfl
   refine done_ (done_of HT_.out (by kernel_rfl)) ?_
   try go_wp2
   go_ret
   exact ⟨by first | rfl | (simp [errW_none, errW_some] <;> rfl) | (simp [*, errW_none, errW_some] <;> rfl), by repeat (first | (with_reducible first | exact HB.out | apply below_alloc | apply pw_below_drewN | apply below_drew1 | refine below_set ?_ GE163.out) | exact HB.out)⟩
 ·replace c3 := Bool.eq_false_iff.mpr c3
  subst c3
  rw [if_neg (show ¬ (false = true) by decide)] at H
  obtain rfl := Option.some.inj H
  go_enter Tryz.func3, Tryz.ntmps3
  go_wp2_with (first | ((with_reducible refine gate_dst (N := 1) rfl ?_); refine box_event ?hg (N := 1) ?hd (cs := #[.int .i64 a0_0, .string a0_1, .int .i64 a0_2, .int .i64 a0_3, .int .i64 a0_4, .int .i64 a0_5, .string a0_6, .slice A0_7 l0_7.length c0_7]) (t := 24) ?hr ?_; (case hd => rfl); (case hg => rfl); (case hr => first | (go_simp; done) | (go_simp; rfl)); intro gb163 hg w18 hbox hb; have n0_ := Aside0.mk (below_step (by repeat (first | (with_reducible first | exact HB.out | apply below_alloc | apply pw_below_drewN | apply below_drew1) | exact HB.out)) hb); have n1_ := Aside0.mk (hbox); have n2_ := Aside0.mk ((by rw [hg]; exact (below_size (by repeat (first | (with_reducible first | exact HB.out | apply below_alloc | apply pw_below_drewN | apply below_drew1) | exact HB.out))) : w.heap.size ≤ gb163)); have n3_ := Aside0.mk ((by rw [hg]; exact (below_size (by repeat (first | (with_reducible first | exact HB.out | apply below_alloc | apply pw_below_drewN | apply below_drew1) | exact HB.out))) : w.heap.size ≤ gb163)); clear HB; have HB := n0_; have BK163 := n1_; have GW163 := n2_; have GE163 := n3_; clear n0_ n1_ n2_ n3_; clear hb hbox hg) | ((with_reducible refine gate_callee (f := 4) rfl ?_); refine goesL_ (some 3) rfl rfl Tryz.func4 (by kernel_rfl) rfl #[] rfl (by (try simp only [List.map_toArray, List.map_cons, List.map_nil]); first | done | rfl | (simp only [List.length_drop, List.length_take]; rfl)) ?_; (with_reducible refine (glossarylaw07_awake.calls k  false _ ?sideM A2.out).mono ?_); (case sideM => repeat (first | exact HM.out.below HB.out | (with_reducible refine MaxAt.alloc ?_ _) | (with_reducible refine MaxAt.drewN ?_ _) | (with_reducible refine MaxAt.drew ?_))); rintro e w19 ⟨rfl, hb⟩; refine ⟨_, rfl, ?_⟩; have n0_ := Aside0.mk (blk_below (g := gb163) (o := .cells #[.int .i64 a0_0, .string a0_1, .int .i64 a0_2, .int .i64 a0_3, .int .i64 a0_4, .int .i64 a0_5, .string a0_6, .slice A0_7 l0_7.length c0_7] 24 (0, 0)) (by (with_reducible repeat (first | refine blk_drewN ?_ _ | refine blk_drew ?_ | refine blk_alloc ?_ _)); exact BK163.out) hb); have n1_ := Aside0.mk (below_step (by repeat (first | (with_reducible first | exact HB.out | apply below_alloc | apply pw_below_drewN | apply below_drew1 | refine below_set ?_ GE163.out) | exact HB.out)) hb); clear BK163; clear HB; have BK163 := n0_; have HB := n1_; clear n0_ n1_; (try clear hb); (try clear hb2); (try clear hk); (try clear hi)))
  go_ret
  exact ⟨by first | rfl | (simp [errW_none, errW_some] <;> rfl) | (simp [*, errW_none, errW_some] <;> rfl), by repeat (first | (with_reducible first | exact HB.out | apply below_alloc | apply pw_below_drewN | apply below_drew1 | refine below_set ?_ GE163.out) | exact HB.out)⟩
end Go.Proofs.YtdkepckkihclgaaGreatDoor.PNodeChecks
namespace Go.Proofs.YtdkepckkihclgaaGreatDoor.PNodeChecks
open Go.RowKit Go.Proofs.YtdkepckkihclgaaGreatDoorW.PrintWords Go.Proofs.YtdkepckkihclgaaGreatDoorW.PrintLast Go.Proofs.YtdkepckkihclgaaGreatDoorW.PrintMore
set_option linter.unusedVariables false
set_option linter.unusedSimpArgs false
theorem Ev.all {α : Type} {g : Nat → Option α} {r : α} (h : ∀ k, g k = some r) : Ev g r := ⟨0, fun k _ => h k⟩
theorem Ev.suc {α : Type} {g : Nat → Option α} {r : α} (h : ∀ k, g (k + 1) = some r) : Ev g r := Ev.step h (Ev.now r)
theorem Ev.map {α β : Type} {g : Nat → Option α} {a : α} (f : α → β) (h : Ev g a) : Ev (fun n => (g n).map f) (f a) := by
  obtain ⟨K, h⟩ := h
  exact ⟨K, fun k hk => by show (g k).map f = _; rw [h k hk]; rfl⟩
theorem w1 (n : Nat) (h : n < 1000000) : wrap64 ((n : Int) + 1) = ((n + 1 : Nat) : Int) := by unfold wrap64; omega
abbrev L (s : ByteArray) : List UInt8 := s.data.toList
theorem L_len (s : ByteArray) : (L s).length = s.size := (Lib.size_eq s).symm
theorem tl (s : ByteArray) : s.toList = L s := Lib.toList_data s
theorem drop_bt (s : ByteArray) (n : Nat) (h : n < s.size) : ∃ c : UInt8, bt s (n : Int) = (c.toNat : Int) ∧ (L s).drop n = c :: (L s).drop (n + 1) := by
  have hl : n < (L s).length := by rw [L_len]; exact h
  refine ⟨(L s)[n], ?_, List.drop_eq_getElem_cons hl⟩
  have h2 : ((n : Int)).toNat < s.size := by simpa using h
  rw [← bt_at s (n : Int) h2]
  rfl
theorem letter_f (c : Int) : glossaryref05_letter.f c = some (wordB c) := by
  unfold glossaryref05_letter.f wordB
  by_cases h1 : 97 ≤ c <;> by_cases h2 : c ≤ 122 <;> by_cases h3 : 65 ≤ c <;> by_cases h4 : c ≤ 90 <;> by_cases h5 : 48 ≤ c <;> by_cases h6 : c ≤ 57 <;> simp [h1, h2, h3, h4, h5, h6]
def identEnd (s : ByteArray) : Bool := !s.data.toList.isEmpty && decide (s.size ≤ 200) && (decide (bt s 0 < 48) || decide (57 < bt s 0))
theorem ident_end (s : ByteArray) (n : Int) (hn : ¬ n < (s.size : Int)) : Ev (fun k => glossaryref05_Ident.l0 k s n) (identEnd s) := by
  refine Ev.suc fun k => ?_
  simp only [glossaryref05_Ident.l0]
  rw [if_neg hn]
  unfold identEnd
  by_cases h1 : 1 ≤ s.size
  · have he : s.data.toList.isEmpty = false := by
      have := L_len s
      cases h : s.data.toList with
      | nil => rw [show (L s) = [] from h] at this; simp at this; omega
      | cons => rfl
    rw [if_pos (by omega), he]
    by_cases h2 : s.size ≤ 200
    · rw [if_pos (by omega), if_pos (by omega)]
      unfold glossaryref05_number.f
      by_cases h3 : 48 ≤ bt s 0 <;> by_cases h4 : bt s 0 ≤ 57 <;> simp [h2, h3, h4] <;> omega
    · rw [if_neg (by omega)]
      simp [h2]
  · have he : s.data.toList.isEmpty = true := by
      have := L_len s
      cases h : s.data.toList with
      | nil => rfl
      | cons => rw [show (L s) = _ from h] at this; simp at this; omega
    rw [if_neg (by omega), he]
    rfl
theorem ident_loop (s : ByteArray) (hs : s.size ≤ 4000) : ∀ m n, n + m = s.size → Ev (fun k => glossaryref05_Ident.l0 k s (n : Int)) (((L s).drop n).all wordU && identEnd s) := by
  intro m
  induction m with
  | zero =>
    intro n hn
    have h0 : (L s).drop n = [] := List.drop_eq_nil_of_le (by rw [L_len]; omega)
    rw [h0]
    exact ident_end s _ (by omega)
  | succ m ih =>
    intro n hn
    obtain ⟨c, hc, hd⟩ := drop_bt s n (by omega)
    refine Ev.step (f := fun k => if wordB (bt s n) = true then glossaryref05_Ident.l0 k s ((n + 1 : Nat) : Int) else some false) (fun k => ?_) ?_
    · simp only [glossaryref05_Ident.l0]
      rw [if_pos (by omega), if_pos (by omega), letter_f, Option.bind_some, w1 n (by omega)]
    · rw [hd, List.all_cons, show wordU c = wordB (bt s n) by rw [hc]; rfl]
      cases wordB (bt s n) with
      | false => exact Ev.now _
      | true =>
        simp only [if_true, Bool.true_and]
        exact ih (n + 1) (by omega)
theorem E_ident (s : ByteArray) (hs : s.size ≤ 4000) : Ev (fun k => glossaryref05_Ident.f k s) (identB s) := by
  have := ident_loop s hs s.size 0 (by omega)
  exact this
def gl : List UInt8 → List UInt8 → List (List UInt8)
  | pre, [] => [pre]
  | pre, c :: l => if c = 46 then pre :: gl [] l else gl (pre ++ [c]) l
theorem gl_dot (pre l : List UInt8) : gl pre (46 :: l) = pre :: gl [] l := by conv => lhs; unfold gl; simp
theorem gl_char {c : UInt8} (h : c ≠ 46) (pre l : List UInt8) : gl pre (c :: l) = gl (pre ++ [c]) l := by conv => lhs; unfold gl; rw [if_neg h]
def ba (l : List UInt8) : ByteArray := ⟨l.toArray⟩
theorem ba_L (s : ByteArray) : ba (L s) = s := rfl
theorem L_ba (l : List UInt8) : L (ba l) = l := rfl
theorem gl_len : ∀ (l pre : List UInt8), (gl pre l).length ≤ l.length + 1 := by
  intro l
  induction l with
  | nil => intro pre; simp [gl]
  | cons c l ih =>
    intro pre
    unfold gl
    split
    · have := ih []; simp; omega
    · have := ih (pre ++ [c]); simp; omega
theorem gl_pos : ∀ (l pre : List UInt8), 0 < (gl pre l).length := by
  intro l
  induction l with
  | nil => intro pre; simp [gl]
  | cons c l ih =>
    intro pre
    unfold gl
    split
    · simp
    · exact ih _
theorem gl_mem : ∀ (l pre : List UInt8) (N : Nat), pre.length + l.length ≤ N → ∀ p ∈ gl pre l, p.length ≤ N := by
  intro l
  induction l with
  | nil => intro pre N h p hp; simp [gl] at hp; subst hp; simpa using h
  | cons c l ih =>
    intro pre N h p hp
    unfold gl at hp
    simp only [List.length_cons] at h
    split at hp
    · rcases List.mem_cons.1 hp with rfl | hp
      · omega
      · exact ih [] N (by simp; omega) p hp
    · exact ih (pre ++ [c]) N (by simp; omega) p hp
theorem extract_ba (s : ByteArray) (f n : Nat) : s.extract f n = ba (((L s).drop f).take (n - f)) := by
  rw [← ba_L (s.extract f n)]
  exact congrArg ba (Lib.extract_data s f n)
theorem parts_loop (s : ByteArray) (hs : s.size ≤ 4000) : ∀ m n f (acc : List ByteArray), n + m = s.size → f ≤ n → acc.length ≤ n →
    Ev (fun k => glossaryref05_Parts.l0 k s acc (f : Int) (n : Int)) (acc ++ (gl (((L s).drop f).take (n - f)) ((L s).drop n)).map ba) := by
  intro m
  induction m with
  | zero =>
    intro n f acc hn hf ha
    obtain rfl : n = s.size := by omega
    have h0 : (L s).drop s.size = [] := List.drop_eq_nil_of_le (by rw [L_len]; omega)
    rw [h0]
    refine Ev.step (f := fun k => glossaryref05_Parts.l0 k s (acc ++ [s.extract f s.size]) ((s.size + 1 : Nat) : Int) ((s.size + 1 : Nat) : Int)) (fun k => ?_) ?_
    · simp only [glossaryref05_Parts.l0]
      rw [if_pos (by omega), if_pos trivial, if_pos (by omega), if_pos (by omega), if_pos (by omega), w1 s.size (by omega)]
      rfl
    · refine Ev.suc fun k => ?_
      simp only [glossaryref05_Parts.l0]
      rw [if_neg (by omega), extract_ba]
      rfl
  | succ m ih =>
    intro n f acc hn hf ha
    obtain ⟨c, hc, hd⟩ := drop_bt s n (by omega)
    rw [hd]
    unfold gl
    by_cases h46 : c = 46
    · rw [if_pos h46]
      refine Ev.step (f := fun k => glossaryref05_Parts.l0 k s (acc ++ [s.extract f n]) ((n + 1 : Nat) : Int) ((n + 1 : Nat) : Int)) (fun k => ?_) ?_
      · simp only [glossaryref05_Parts.l0]
        rw [if_pos (by omega), if_neg (by omega), if_pos (by omega), if_pos (by omega), if_pos (by rw [hc, h46]; rfl), if_pos (by omega), if_pos (by omega), if_pos (by omega), w1 n (by omega)]
        rfl
      · have := ih (n + 1) (n + 1) (acc ++ [s.extract f n]) (by omega) (by omega) (by simp; omega)
        rw [Nat.sub_self, List.take_zero, extract_ba, List.append_assoc] at this
        rw [extract_ba]
        exact this
    · rw [if_neg h46]
      refine Ev.step (f := fun k => glossaryref05_Parts.l0 k s acc (f : Int) ((n + 1 : Nat) : Int)) (fun k => ?_) ?_
      · simp only [glossaryref05_Parts.l0]
        rw [if_pos (by omega), if_neg (by omega), if_pos (by omega), if_pos (by omega), if_neg (by
          rw [hc]
          intro e
          apply h46
          apply UInt8.toNat_inj.1
          exact (by omega : c.toNat = 46)), w1 n (by omega)]
      · have := ih (n + 1) f acc (by omega) (by omega) (by omega)
        have e : ((L s).drop f).take (n + 1 - f) = ((L s).drop f).take (n - f) ++ [c] := by
          have h1 : n + 1 - f = n - f + 1 := by omega
          have h2 : ((L s).drop f)[n - f]? = some c := by
            rw [List.getElem?_drop, show f + (n - f) = n by omega]
            have : ((L s).drop n)[0]? = some c := by rw [hd]; rfl
            rw [List.getElem?_drop] at this
            simpa using this
          rw [h1, List.take_add_one, h2]
          rfl
        rw [e] at this
        exact this
def partsB (s : ByteArray) : List ByteArray := (gl [] (L s)).map ba
theorem E_parts (s : ByteArray) (hs : s.size ≤ 4000) : Ev (fun k => glossaryref05_Parts.f k s) (partsB s) := by
  have := parts_loop s hs s.size 0 0 [] (by omega) (by omega) (by simp)
  simp only [List.nil_append, Nat.sub_self, List.take_zero, List.drop_zero] at this
  exact this
theorem full_loop (ps : List ByteArray) (hl : ps.length ≤ 5000) (hm : ∀ p ∈ ps, p.size ≤ 4000) : ∀ m n, n + m = ps.length →
    Ev (fun k => glossaryref05_Full.l0 k ps (ps.length : Int) (n : Int)) ((ps.drop n).all identB) := by
  intro m
  induction m with
  | zero =>
    intro n hn
    rw [List.drop_eq_nil_of_le (by omega)]
    refine Ev.suc fun k => ?_
    simp only [glossaryref05_Full.l0]
    rw [if_neg (by omega)]
    rfl
  | succ m ih =>
    intro n hn
    have hlt : n < ps.length := by omega
    rw [List.drop_eq_getElem_cons hlt, List.all_cons]
    have hr : rdOf ByteArray.empty ps (n : Int) = ps[n] := by
      unfold rdOf
      rw [Int.toNat_natCast, List.getD_eq_getElem?_getD, List.getElem?_eq_getElem hlt]
      rfl
    refine Ev.step (f := fun k => (glossaryref05_Ident.f k ps[n]).bind fun t => if t = true then glossaryref05_Full.l0 k ps (ps.length : Int) ((n + 1 : Nat) : Int) else some false) (fun k => ?_) ?_
    · simp only [glossaryref05_Full.l0]
      rw [if_pos (by omega), if_pos (by omega), if_pos (by omega), hr, w1 n (by omega)]
    · refine Ev.bind (E_ident ps[n] (hm _ (List.getElem_mem hlt))) ?_
      cases identB ps[n] with
      | false => exact Ev.now _
      | true =>
        simp only [if_true, Bool.true_and]
        exact ih (n + 1) (by omega)
theorem gl_index : ∀ (l pre : List UInt8), gl pre l = if Lib.indexByte l 46 < 0 then [pre ++ l] else (pre ++ l.take (Lib.indexByte l 46).toNat) :: gl [] (l.drop ((Lib.indexByte l 46).toNat + 1)) := by
  intro l
  induction l with
  | nil => intro pre; simp [gl, Lib.indexByte]
  | cons c l ih =>
    intro pre
    have hge := Lib.indexByte_ge l 46
    by_cases h : c = 46
    · subst h
      rw [gl_dot]
      simp [Lib.indexByte]
    · rw [gl_char h, ih (pre ++ [c])]
      have hb : (c == 46) = false := beq_eq_false_iff_ne.mpr h
      simp only [Lib.indexByte, hb, Bool.false_eq_true, if_false]
      by_cases h1 : Lib.indexByte l 46 < 0
      · have : Lib.indexByte l 46 = -1 := by omega
        simp [this]
      · have hne : ¬ Lib.indexByte l 46 = -1 := by omega
        have hbe : (Lib.indexByte l 46 == -1) = false := beq_eq_false_iff_ne.mpr hne
        rw [hbe]
        have e : (Lib.indexByte l 46 + 1).toNat = (Lib.indexByte l 46).toNat + 1 := by omega
        simp only [Bool.false_eq_true, if_false]
        rw [if_neg h1, if_neg (by omega), e]
        simp
theorem splitN_gl : ∀ (n : Nat) (s : ByteArray), s.size ≤ n → splitN n s = partsB s := by
  intro n
  induction n with
  | zero =>
    intro s hs
    have : L s = [] := List.eq_nil_of_length_eq_zero (by rw [L_len]; omega)
    unfold splitN partsB
    rw [this]
    simp only [gl, List.map_cons, List.map_nil]
    rw [← this, ba_L]
  | succ n ih =>
    intro s hs
    unfold splitN partsB
    rw [gl_index (L s) []]
    by_cases h : Lib.indexByte (L s) 46 < 0
    · rw [if_pos h, if_pos h]
      simp [ba_L]
    · rw [if_neg h, if_neg h, List.map_cons]
      have hz : (s.extract ((Lib.indexByte (L s) 46).toNat + 1) s.size).size ≤ n := by
        rw [← L_len, show L (s.extract _ _) = _ from Lib.extract_data s _ _, List.length_take, List.length_drop, L_len]
        omega
      rw [ih _ hz]
      unfold partsB
      have e1 : s.extract 0 (Lib.indexByte (L s) 46).toNat = ba ([] ++ (L s).take (Lib.indexByte (L s) 46).toNat) := by
        rw [extract_ba]; simp
      have e2 : L (s.extract ((Lib.indexByte (L s) 46).toNat + 1) s.size) = (L s).drop ((Lib.indexByte (L s) 46).toNat + 1) := Lib.extract_to_end s _
      rw [e1, e2]
theorem fullB_eq (s : ByteArray) : fullB s = ((partsB s).all identB && decide (s.size ≤ 1000)) := by
  unfold fullB
  rw [splitN_gl s.size s (Nat.le_refl _)]
theorem partsB_mem (s : ByteArray) (hs : s.size ≤ 4000) : ∀ p ∈ partsB s, p.size ≤ 4000 := by
  intro p hp
  obtain ⟨l, hl, rfl⟩ := List.mem_map.1 hp
  have := gl_mem (L s) [] 4000 (by rw [L_len]; simpa using hs) l hl
  rw [← L_len, L_ba]
  exact this
theorem partsB_len (s : ByteArray) (hs : s.size ≤ 4000) : (partsB s).length ≤ 5000 := by
  have := gl_len (L s) []
  rw [L_len] at this
  simp only [partsB, List.length_map]
  omega
theorem E_full (s : ByteArray) (hs : s.size ≤ 4000) : Ev (fun k => glossaryref05_Full.f k s) (fullB s) := by
  rw [fullB_eq]
  unfold glossaryref05_Full.f
  by_cases h : s.size ≤ 1000
  · refine Ev.congr (f := fun k => (glossaryref05_Parts.f k s).bind fun t => glossaryref05_Full.l0 k t (t.length : Int) 0) (fun k => by rw [if_neg (by omega)]) ?_
    refine Ev.bind (E_parts s hs) ?_
    have := full_loop (partsB s) (partsB_len s hs) (partsB_mem s hs) (partsB s).length 0 (by omega)
    simpa [h] using this
  · refine Ev.all fun k => ?_
    rw [if_pos (by omega)]
    simp [h]
theorem trim46 (s : ByteArray) : trimB s ⟨#[46]⟩ = if prefB s ⟨#[46]⟩ = true then s.extract 1 s.size else s := by
  unfold trimB prefB Lib.trimPrefix
  split
  · rw [extract_ba, List.take_of_length_le (by rw [List.length_drop, L_len]; omega)]; rfl
  · rfl
theorem pref46 (s : ByteArray) : prefB s ⟨#[46]⟩ = (decide (0 < s.size) && (bt s 0 == 46)) := by
  unfold prefB Lib.hasPrefix
  by_cases h : 0 < s.size
  · obtain ⟨c, hc, hd⟩ := drop_bt s 0 h
    have hd' : s.data.toList = c :: (L s).drop 1 := by simpa using hd
    have hc' : bt s 0 = (c.toNat : Int) := hc
    rw [hc', hd']
    simp only [h, decide_true, Bool.true_and]
    show ((46 : UInt8) == c && List.isPrefixOf [] _) = _
    simp only [List.isPrefixOf_nil_left, Bool.and_true]
    rw [Bool.eq_iff_iff, beq_iff_eq, beq_iff_eq]
    constructor
    · intro e; subst e; rfl
    · intro e; exact UInt8.toNat_inj.1 (by have : c.toNat = 46 := by omega
                                           rw [this]; rfl)
  · have : s.data.toList = [] := List.eq_nil_of_length_eq_zero (by have := L_len s; unfold L at this; omega)
    rw [this]
    simp [h]
theorem E_ref (s : ByteArray) (hs : s.size ≤ 2000) : Ev (fun k => glossaryref07_ref.f k s) (refB s) := by
  unfold glossaryref07_ref.f refB
  rw [trim46]
  have h1 := pref46 s
  by_cases he : s.toList = []
  · have h0 : s.size = 0 := by rw [tl] at he; rw [← L_len, he]; rfl
    have hp : prefB s ⟨#[46]⟩ = false := by rw [h1]; simp [h0]
    have hp2 : prefB s ⟨#[46, 46]⟩ = false := by
      unfold prefB Lib.hasPrefix
      rw [show s.data.toList = [] from (tl s).symm.trans he]
      rfl
    rw [hp, hp2]
    refine Ev.congr (f := fun k => (glossaryref05_Full.f k s).bind fun t => some t) (fun k => by rw [if_pos he]) ?_
    simpa using Ev.bind (f := fun _ t => some t) (E_full s (by omega)) (Ev.now _)
  · have hpos : 0 < s.size := by
      rw [← L_len]
      exact List.length_pos_iff.2 (fun e => he (by rw [tl]; exact e))
    cases hb : (bt s 0 == 46) with
    | false =>
      have hp : prefB s ⟨#[46]⟩ = false := by rw [h1, hb]; simp
      have hp2 : prefB s ⟨#[46, 46]⟩ = false := by
        unfold prefB Lib.hasPrefix at hp ⊢
        cases hl : s.data.toList with
        | nil => rfl
        | cons c l =>
          rw [hl] at hp
          have e : ((46 : UInt8) == c) = false := by
            have hp' : ((46 : UInt8) == c && List.isPrefixOf [] l) = false := hp
            simpa using hp'
          show ((46 : UInt8) == c && List.isPrefixOf [46] l) = false
          rw [e]; rfl
      rw [hp, hp2]
      refine Ev.congr (f := fun k => (glossaryref05_Full.f k s).bind fun t => some t) (fun k => by rw [if_neg he, if_pos (by omega), if_neg (by intro e; rw [e] at hb; exact absurd hb (by decide))]) ?_
      simpa using Ev.bind (f := fun _ t => some t) (E_full s (by omega)) (Ev.now _)
    | true =>
      have hp : prefB s ⟨#[46]⟩ = true := by rw [h1, hb]; simp [hpos]
      rw [hp]
      have e46 : bt s 0 = 46 := by simpa using hb
      have hz : (s.extract 1 s.size).size ≤ 4000 := by
        rw [← L_len, show L (s.extract _ _) = _ from Lib.extract_data s _ _, List.length_take, List.length_drop, L_len]; omega
      have key : (fullB (s.extract 1 s.size) && !(prefB s ⟨#[46, 46]⟩)) = fullB (s.extract 1 s.size) := by
        cases h2 : prefB s ⟨#[46, 46]⟩ with
        | false => simp
        | true =>
          have : fullB (s.extract 1 s.size) = false := by
            rw [fullB_eq]
            have hx : L (s.extract 1 s.size) = (L s).drop 1 := Lib.extract_to_end s 1
            unfold partsB
            rw [hx]
            unfold prefB Lib.hasPrefix at h2
            cases hl : s.data.toList with
            | nil => rw [hl] at h2; simp at h2
            | cons c l =>
              rw [hl] at h2
              cases l with
              | nil => exact absurd h2 (by show ¬ ((46 : UInt8) == c && List.isPrefixOf [46] []) = true; simp)
              | cons d l =>
                have h2' : ((46 : UInt8) == c && ((46 : UInt8) == d && List.isPrefixOf [] l)) = true := h2
                have hd : d = 46 := by
                  simp only [Bool.and_eq_true, beq_iff_eq] at h2'
                  exact h2'.2.1.symm
                subst hd
                rw [show L s = c :: 46 :: l from hl, List.drop_succ_cons, List.drop_zero, gl_dot, List.map_cons, List.all_cons, show identB (ba []) = false from by decide]
                rfl
          rw [this]; rfl
      rw [if_pos rfl, key]
      refine Ev.congr (f := fun k => (glossaryref05_Full.f k (s.extract 1 s.size)).bind fun t => some t) (fun k => by rw [if_neg he, if_pos (by omega), if_pos e46, if_pos (by omega)]) ?_
      simpa using Ev.bind (f := fun _ t => some t) (E_full _ hz) (Ev.now _)
end Go.Proofs.YtdkepckkihclgaaGreatDoor.PNodeChecks

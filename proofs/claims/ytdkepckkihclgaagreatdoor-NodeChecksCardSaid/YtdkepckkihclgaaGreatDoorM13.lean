import Derived.Test.YtdkepckkihclgaaGreatDoorM12
namespace Go.Proofs.YtdkepckkihclgaaGreatDoor.PNodeChecks
open Go.RowKit Go.Proofs.YtdkepckkihclgaaGreatDoorW.PrintWords Go.Proofs.YtdkepckkihclgaaGreatDoorW.PrintLast Go.Proofs.YtdkepckkihclgaaGreatDoorW.PrintMore
attribute [local go_sem] max2_int min2_int max_two min_two max_three min_three max_four min_four   -- for this text's walks alone
set_option linter.unusedVariables false
set_option linter.unusedSimpArgs false
mutual
def glossaryref07_own.j0 : Nat → Int → Bool → Int → ByteArray → Int → Int → Int → Int → ByteArray → List (S24) → Option (Bool)
 | 0, _, _, _, _, _, _, _, _, _, _ => none
 | k + 1, x3, x35, x125000, x125001, x125002, x125003, x125004, x125005, x125006, x125007 => if x35 = true then (some false) else (if x125003 = 0 then (if x125002 = 0 then (glossaryref07_own.j1 k x3 false x125000 x125001 x125002 x125003 x125004 x125005 x125006 x125007) else (if x3 = 14 then (glossaryref07_own.j1 k x3 false x125000 x125001 x125002 x125003 x125004 x125005 x125006 x125007) else (if x3 = 9 then (glossaryref07_own.j1 k x3 false x125000 x125001 x125002 x125003 x125004 x125005 x125006 x125007) else (if x3 = 10 then (glossaryref07_own.j1 k x3 false x125000 x125001 x125002 x125003 x125004 x125005 x125006 x125007) else (glossaryref07_own.j1 k x3 (x3 != 16) x125000 x125001 x125002 x125003 x125004 x125005 x125006 x125007))))) else (if x3 = 14 then (if x125002 = 0 then (glossaryref07_own.j1 k x3 false x125000 x125001 x125002 x125003 x125004 x125005 x125006 x125007) else (glossaryref07_own.j1 k x3 false x125000 x125001 x125002 x125003 x125004 x125005 x125006 x125007)) else (glossaryref07_own.j1 k x3 true x125000 x125001 x125002 x125003 x125004 x125005 x125006 x125007)))
def glossaryref07_own.j1 : Nat → Int → Bool → Int → ByteArray → Int → Int → Int → Int → ByteArray → List (S24) → Option (Bool)
 | 0, _, _, _, _, _, _, _, _, _, _ => none
 | k + 1, x3, x63, x125000, x125001, x125002, x125003, x125004, x125005, x125006, x125007 => if x63 = true then (some false) else (if x3 = 2 then (glossaryref07_own.j2 k 0 x3 (x3 == 2) x125000 x125001 x125002 x125003 x125004 x125005 x125006 x125007) else (if x3 = 19 then (glossaryref07_own.j2 k 0 x3 (x3 == 19) x125000 x125001 x125002 x125003 x125004 x125005 x125006 x125007) else (glossaryref07_own.j2 k 0 x3 (x3 == 24) x125000 x125001 x125002 x125003 x125004 x125005 x125006 x125007)))
def glossaryref07_own.j2 : Nat → Int → Int → Bool → Int → ByteArray → Int → Int → Int → Int → ByteArray → List (S24) → Option (Bool)
 | 0, _, _, _, _, _, _, _, _, _, _, _ => none
 | k + 1, x4, x64, x65, x125000, x125001, x125002, x125003, x125004, x125005, x125006, x125007 => if x65 = true then (if x125004 ≥ 0 then (if x125004 ≤ 1 then ((glossaryref07_text.f k x125000 x125001 x125002 x125003 x125004 x125005 x125006 x125007).bind fun t126 => (if t126 = true then ((glossaryref07_number.f k x125000 x125001 x125002 x125003 x125004 x125005 x125006 x125007).bind fun t127 => (if t127 = true then ((glossaryref07_kids.f k x125000 x125001 x125002 x125003 x125004 x125005 x125006 x125007).bind fun t128 => (some t128)) else (some false))) else (some false))) else (some false)) else (some false)) else (if x64 = 9 then (glossaryref07_own.j3 k x4 (x64 == 9) x125000 x125001 x125002 x125003 x125004 x125005 x125006 x125007) else (glossaryref07_own.j3 k x4 (x64 == 17) x125000 x125001 x125002 x125003 x125004 x125005 x125006 x125007))
def glossaryref07_own.j3 : Nat → Int → Bool → Int → ByteArray → Int → Int → Int → Int → ByteArray → List (S24) → Option (Bool)
 | 0, _, _, _, _, _, _, _, _, _, _ => none
 | k + 1, x4, x69, x125000, x125001, x125002, x125003, x125004, x125005, x125006, x125007 => if x69 = true then (if x125004 ≥ 0 then (if x125004 ≤ 3 then ((glossaryref07_text.f k x125000 x125001 x125002 x125003 x125004 x125005 x125006 x125007).bind fun t129 => (if t129 = true then ((glossaryref07_number.f k x125000 x125001 x125002 x125003 x125004 x125005 x125006 x125007).bind fun t130 => (if t130 = true then ((glossaryref07_kids.f k x125000 x125001 x125002 x125003 x125004 x125005 x125006 x125007).bind fun t131 => (some t131)) else (some false))) else (some false))) else (some false)) else (some false)) else (if x125004 ≥ 0 then (if x125004 ≤ x4 then ((glossaryref07_text.f k x125000 x125001 x125002 x125003 x125004 x125005 x125006 x125007).bind fun t132 => (if t132 = true then ((glossaryref07_number.f k x125000 x125001 x125002 x125003 x125004 x125005 x125006 x125007).bind fun t133 => (if t133 = true then ((glossaryref07_kids.f k x125000 x125001 x125002 x125003 x125004 x125005 x125006 x125007).bind fun t134 => (some t134)) else (some false))) else (some false))) else (some false)) else (some false))
end
def glossaryref07_own.f (k : Nat) (a0_0 : Int) (a0_1 : ByteArray) (a0_2 : Int) (a0_3 : Int) (a0_4 : Int) (a0_5 : Int) (a0_6 : ByteArray) (l0_7 : List (S24)) : Option (Bool) := if a0_5 < 0 then (glossaryref07_own.j0 k a0_0 true a0_0 a0_1 a0_2 a0_3 a0_4 a0_5 a0_6 l0_7) else (if a0_6.toList = ([] : List UInt8) then (glossaryref07_own.j0 k a0_0 false a0_0 a0_1 a0_2 a0_3 a0_4 a0_5 a0_6 l0_7) else ((glossaryref07_documented.f a0_0).bind fun t125 => (if t125 = true then (if 0 ≤ (wrap64 ((a0_6.size : Int) - 1)) then (if (wrap64 ((a0_6.size : Int) - 1)) < (a0_6.size : Int) then (if (bt a0_6 (wrap64 ((a0_6.size : Int) - 1))) = 10 then (glossaryref07_own.j0 k a0_0 (decide ((a0_6.size : Int) > 10000)) a0_0 a0_1 a0_2 a0_3 a0_4 a0_5 a0_6 l0_7) else (glossaryref07_own.j0 k a0_0 true a0_0 a0_1 a0_2 a0_3 a0_4 a0_5 a0_6 l0_7)) else (none)) else (none)) else (glossaryref07_own.j0 k a0_0 true a0_0 a0_1 a0_2 a0_3 a0_4 a0_5 a0_6 l0_7))))
set_option maxHeartbeats 8000000 in
set_option maxRecDepth 100000 in
theorem glossaryref07_own.calls (k : Nat) (a0_0 : Int) (a0_1 : ByteArray) (a0_2 : Int) (a0_3 : Int) (a0_4 : Int) (a0_5 : Int) (a0_6 : ByteArray) (A0_7 : Option Addr) (c0_7 : Nat) (l0_7 : List (S24)) (r : Bool) (w : World) (hr0_7 : Kd.C k24 w A0_7 l0_7.length l0_7) (hc0_7 : l0_7.length ≤ c0_7) (h : glossaryref07_own.f k a0_0 a0_1 a0_2 a0_3 a0_4 a0_5 a0_6 l0_7 = some r) :
  Calls Tryz.prog 21 #[.agg #[.int .i64 a0_0, .string a0_1, .int .i64 a0_2, .int .i64 a0_3, .int .i64 a0_4, .int .i64 a0_5, .string a0_6, .slice A0_7 l0_7.length c0_7]] w fun e w' => e = .returned (.bool r) ∧ Below w.heap.size w w' := by
 have hu24 := Tryz.underlying24
 have HR0_7 := Aside0.mk hr0_7
 have HC0_7 := Aside0.mk hc0_7
 clear hr0_7 hc0_7
 have HB := Aside0.mk (Below.refl w.heap.size w)
 have H : (if a0_5 < 0 then (glossaryref07_own.j0 k a0_0 true a0_0 a0_1 a0_2 a0_3 a0_4 a0_5 a0_6 l0_7) else (if a0_6.toList = ([] : List UInt8) then (glossaryref07_own.j0 k a0_0 false a0_0 a0_1 a0_2 a0_3 a0_4 a0_5 a0_6 l0_7) else ((glossaryref07_documented.f a0_0).bind fun t125 => (if t125 = true then (if 0 ≤ (wrap64 ((a0_6.size : Int) - 1)) then (if (wrap64 ((a0_6.size : Int) - 1)) < (a0_6.size : Int) then (if (bt a0_6 (wrap64 ((a0_6.size : Int) - 1))) = 10 then (glossaryref07_own.j0 k a0_0 (decide ((a0_6.size : Int) > 10000)) a0_0 a0_1 a0_2 a0_3 a0_4 a0_5 a0_6 l0_7) else (glossaryref07_own.j0 k a0_0 true a0_0 a0_1 a0_2 a0_3 a0_4 a0_5 a0_6 l0_7)) else (none)) else (none)) else (glossaryref07_own.j0 k a0_0 true a0_0 a0_1 a0_2 a0_3 a0_4 a0_5 a0_6 l0_7))))) = some r := h
 clear h
 have HC2 := Aside0.mk H
 clear H
 go_enter Tryz.func21, Tryz.ntmps21
 go_upto_region 2 with (first | ((with_reducible refine gate_dst (N := 1) rfl ?_); (try (refine gate_guard (by rfl) ?_; dsimp only)); refine box_event ?hg (N := 1) ?hd (cs := #[.int .i64 a0_0, .string a0_1, .int .i64 a0_2, .int .i64 a0_3, .int .i64 a0_4, .int .i64 a0_5, .string a0_6, .slice A0_7 l0_7.length c0_7]) (t := 24) ?hr ?_; (case hd => rfl); (case hg => rfl); (case hr => first | (go_simp; done) | (go_simp; rfl)); intro gb124 hg w3 hbox hb; have n0_ := Aside0.mk (below_step (by repeat (first | (with_reducible first | exact HB.out | apply below_alloc | apply pw_below_drewN | apply below_drew1) | exact HB.out)) hb); have n1_ := Aside0.mk (hbox); have n2_ := Aside0.mk ((by rw [hg]; exact (below_size (by repeat (first | (with_reducible first | exact HB.out | apply below_alloc | apply pw_below_drewN | apply below_drew1) | exact HB.out))) : w.heap.size ≤ gb124)); have n3_ := Aside0.mk ((by rw [hg]; exact (below_size (by repeat (first | (with_reducible first | exact HB.out | apply below_alloc | apply pw_below_drewN | apply below_drew1) | exact HB.out))) : w.heap.size ≤ gb124)); clear HB; have HB := n0_; have BK124 := n1_; have GW124 := n2_; have GE124 := n3_; clear n0_ n1_ n2_ n3_; clear hb hbox hg; have hcz4_0 : w3.cell? ⟨gb124, 0, none⟩ = some (.int .i64 a0_0) := (blk_cell BK124.out 0).trans rfl; have hcz4_1 : w3.cell? ⟨gb124, 1, none⟩ = some (.string a0_1) := (blk_cell BK124.out 1).trans rfl; have hcz4_2 : w3.cell? ⟨gb124, 2, none⟩ = some (.int .i64 a0_2) := (blk_cell BK124.out 2).trans rfl; have hcz4_3 : w3.cell? ⟨gb124, 3, none⟩ = some (.int .i64 a0_3) := (blk_cell BK124.out 3).trans rfl; have hcz4_4 : w3.cell? ⟨gb124, 4, none⟩ = some (.int .i64 a0_4) := (blk_cell BK124.out 4).trans rfl; have hcz4_5 : w3.cell? ⟨gb124, 5, none⟩ = some (.int .i64 a0_5) := (blk_cell BK124.out 5).trans rfl; have hcz4_6 : w3.cell? ⟨gb124, 6, none⟩ = some (.string a0_6) := (blk_cell BK124.out 6).trans rfl; have hcz4_7 : w3.cell? ⟨gb124, 7, none⟩ = some (.slice A0_7 l0_7.length c0_7) := (blk_cell BK124.out 7).trans rfl; have hfz4_0 := blk_frozen BK124.out 0; have hfz4_1 := blk_frozen BK124.out 1; have hfz4_2 := blk_frozen BK124.out 2; have hfz4_3 := blk_frozen BK124.out 3; have hfz4_4 := blk_frozen BK124.out 4; have hfz4_5 := blk_frozen BK124.out 5; have hfz4_6 := blk_frozen BK124.out 6; have hfz4_7 := blk_frozen BK124.out 7))
 (try simp only [Act.put, List.setIfInBounds_toArray, List.set_cons_zero, List.set_cons_succ])
 go_cut [35] (fun v35 wc => ∃ (kq : Nat) (x35_1 : Bool), v35 = .bool x35_1 ∧ Aside0 (glossaryref07_own.j0 kq a0_0 x35_1 a0_0 a0_1 a0_2 a0_3 a0_4 a0_5 a0_6 l0_7 = some r) ∧ Aside0 (kq ≤ k) ∧ Aside0 (wc.heap[gb124]? = some (.cells #[.int .i64 a0_0, .string a0_1, .int .i64 a0_2, .int .i64 a0_3, .int .i64 a0_4, .int .i64 a0_5, .string a0_6, (.slice A0_7 l0_7.length c0_7)] 24 (0, 0))) ∧ Aside0 (Below w.heap.size w wc))
 case first =>
  have H := HC2.out
  clear HC2
  by_cases c5 : a0_5 < 0
  ·rw [if_pos c5] at H
   have c5b0 : decide (a0_5 < 0) = true := decide_eq_true c5
   clear c5
   (first | rw [c5b0] | (simp only [i64_w, i32_w]; rw [c5b0]) | skip)
   have H' := Aside0.mk H
   clear H
   obtain ⟨hcz6_0, hfz6_0, hcz6_1, hfz6_1, hcz6_2, hfz6_2, hcz6_3, hfz6_3, hcz6_4, hfz6_4, hcz6_5, hfz6_5, hcz6_6, hfz6_6, hcz6_7, hfz6_7⟩ := cells8 BK124.out
   go_wp2
   go_meet
   case rel => exact ⟨_, (true), (by first | rfl | (simp; done) | (simp [*]; done)), H', ⟨by first | omega | exact Nat.le_refl _⟩, ⟨by (with_reducible repeat (first | refine blk_drewN ?_ _ | refine blk_drew ?_ | refine blk_alloc ?_ _)); exact BK124.out⟩, ⟨by repeat (first | (with_reducible first | exact HB.out | apply below_alloc | apply pw_below_drewN | apply below_drew1 | refine below_set ?_ GE124.out) | exact HB.out)⟩⟩
  ·rw [if_neg c5] at H
   have c5b0 : decide (a0_5 < 0) = false := decide_eq_false c5
   clear c5
   (first | rw [c5b0] | (simp only [i64_w, i32_w]; rw [c5b0]) | skip)
   by_cases c7 : a0_6.toList = ([] : List UInt8)
   ·rw [if_pos c7] at H
    have c7b0 : (a0_6.toList == ([] : List UInt8)) = true := beq_iff_eq.mpr c7
    have c7b1 : (a0_6.toList != ([] : List UInt8)) = false := bne_eq_false_iff_eq.mpr c7
    clear c7
    have H' := Aside0.mk H
    clear H
    obtain ⟨hcz8_0, hfz8_0, hcz8_1, hfz8_1, hcz8_2, hfz8_2, hcz8_3, hfz8_3, hcz8_4, hfz8_4, hcz8_5, hfz8_5, hcz8_6, hfz8_6, hcz8_7, hfz8_7⟩ := cells8 BK124.out
    go_wp2
    go_meet
    case rel => exact ⟨_, (false), (by first | rfl | (simp; done) | (simp [*]; done)), H', ⟨by first | omega | exact Nat.le_refl _⟩, ⟨by (with_reducible repeat (first | refine blk_drewN ?_ _ | refine blk_drew ?_ | refine blk_alloc ?_ _)); exact BK124.out⟩, ⟨by repeat (first | (with_reducible first | exact HB.out | apply below_alloc | apply pw_below_drewN | apply below_drew1 | refine below_set ?_ GE124.out) | exact HB.out)⟩⟩
   ·rw [if_neg c7] at H
    have c7b0 : (a0_6.toList == ([] : List UInt8)) = false := beq_eq_false_iff_ne.mpr c7
    have c7b1 : (a0_6.toList != ([] : List UInt8)) = true := bne_iff_ne.mpr c7
    replace H := Option.bind_eq_some_iff.mp H
    obtain ⟨t125, A90, H⟩ := H
    try dsimp only at H
    have A9 := Aside0.mk A90
    clear A90
    by_cases c10 : t125 = true
    ·subst c10
     rw [if_pos rfl] at H
     obtain ⟨ji11, hji11⟩ : ∃ j_ : Int, (wrap64 ((a0_6.size : Int) - 1)) = j_ := ⟨_, rfl⟩
     replace H : (if 0 ≤ (ji11) then (if (ji11) < (a0_6.size : Int) then (if (bt a0_6 (ji11)) = 10 then (glossaryref07_own.j0 k a0_0 (decide ((a0_6.size : Int) > 10000)) a0_0 a0_1 a0_2 a0_3 a0_4 a0_5 a0_6 l0_7) else (glossaryref07_own.j0 k a0_0 true a0_0 a0_1 a0_2 a0_3 a0_4 a0_5 a0_6 l0_7)) else (none)) else (none)) = some r := by first | (rw [hji11] at H; exact H) | (simp only [hji11] at H ⊢; exact H)
     (try rw [hji11] at A9)
     have hji11w : (IntKind.i64.wrap ((a0_6.size : Int) - 1)) = ji11 := (i64_w _).trans hji11
     by_cases c12 : 0 ≤ (ji11)
     ·rw [if_pos c12] at H
      have c12b0 : decide (0 ≤ (ji11)) = true := decide_eq_true c12
      clear c12
      by_cases c13 : (ji11) < (a0_6.size : Int)
      ·rw [if_pos c13] at H
       have c13b0 : decide ((ji11) < (a0_6.size : Int)) = true := decide_eq_true c13
       clear c13
       by_cases c15 : (bt a0_6 (ji11)) = 10
       ·rw [if_pos c15] at H
        have c15b0 : ((bt a0_6 (ji11)) == 10) = true := beq_iff_eq.mpr c15
        have c15b1 : ((bt a0_6 (ji11)) != 10) = false := bne_eq_false_iff_eq.mpr c15
        clear c15
        have H' := Aside0.mk H
        clear H
        obtain ⟨hcz16_0, hfz16_0, hcz16_1, hfz16_1, hcz16_2, hfz16_2, hcz16_3, hfz16_3, hcz16_4, hfz16_4, hcz16_5, hfz16_5, hcz16_6, hfz16_6, hcz16_7, hfz16_7⟩ := cells8 BK124.out
        go_wp2_with (first | (go_at_call 26; (with_reducible refine (glossaryref07_documented.calls a0_0 true _ A9.out).mono ?_); rintro e w' ⟨rfl, ⟨nd, rfl⟩⟩; have p14 : 0 ≤ ((ji11) : Int) := of_decide_eq_true (by first | (with_reducible assumption) | assumption); have q14 : (ji11) < (a0_6.size : Int) := of_decide_eq_true (by first | (with_reducible assumption) | assumption); have hx14 := bt_at a0_6 (ji11); replace p14 := eq_true p14; replace q14 := eq_true q14))
        go_meet
        case rel => exact ⟨_, (decide ((a0_6.size : Int) > 10000)), (by first | rfl | (simp; done) | (simp [*]; done)), H', ⟨by first | omega | exact Nat.le_refl _⟩, ⟨by (with_reducible repeat (first | refine blk_drewN ?_ _ | refine blk_drew ?_ | refine blk_alloc ?_ _)); exact BK124.out⟩, ⟨by repeat (first | (with_reducible first | exact HB.out | apply below_alloc | apply pw_below_drewN | apply below_drew1 | refine below_set ?_ GE124.out) | exact HB.out)⟩⟩
       ·rw [if_neg c15] at H
        have c15b0 : ((bt a0_6 (ji11)) == 10) = false := beq_eq_false_iff_ne.mpr c15
        have c15b1 : ((bt a0_6 (ji11)) != 10) = true := bne_iff_ne.mpr c15
        have H' := Aside0.mk H
        clear H
        obtain ⟨hcz17_0, hfz17_0, hcz17_1, hfz17_1, hcz17_2, hfz17_2, hcz17_3, hfz17_3, hcz17_4, hfz17_4, hcz17_5, hfz17_5, hcz17_6, hfz17_6, hcz17_7, hfz17_7⟩ := cells8 BK124.out
        go_wp2_with (first | (go_at_call 26; (with_reducible refine (glossaryref07_documented.calls a0_0 true _ A9.out).mono ?_); rintro e w' ⟨rfl, ⟨nd, rfl⟩⟩; have p14 : 0 ≤ ((ji11) : Int) := of_decide_eq_true (by first | (with_reducible assumption) | assumption); have q14 : (ji11) < (a0_6.size : Int) := of_decide_eq_true (by first | (with_reducible assumption) | assumption); have hx14 := bt_at a0_6 (ji11); replace p14 := eq_true p14; replace q14 := eq_true q14))
        go_meet
        case rel => exact ⟨_, (true), (by first | rfl | (simp; done) | (simp [*]; done)), H', ⟨by first | omega | exact Nat.le_refl _⟩, ⟨by (with_reducible repeat (first | refine blk_drewN ?_ _ | refine blk_drew ?_ | refine blk_alloc ?_ _)); exact BK124.out⟩, ⟨by repeat (first | (with_reducible first | exact HB.out | apply below_alloc | apply pw_below_drewN | apply below_drew1 | refine below_set ?_ GE124.out) | exact HB.out)⟩⟩
      ·rw [if_neg c13] at H
       exact absurd H (by simp)
     ·rw [if_neg c12] at H
      exact absurd H (by simp)
    ·replace c10 := Bool.eq_false_iff.mpr c10
     subst c10
     rw [if_neg (show ¬ (false = true) by decide)] at H
     have H' := Aside0.mk H
     clear H
     obtain ⟨hcz18_0, hfz18_0, hcz18_1, hfz18_1, hcz18_2, hfz18_2, hcz18_3, hfz18_3, hcz18_4, hfz18_4, hcz18_5, hfz18_5, hcz18_6, hfz18_6, hcz18_7, hfz18_7⟩ := cells8 BK124.out
     go_wp2_with (first | (go_at_call 26; (with_reducible refine (glossaryref07_documented.calls a0_0 false _ A9.out).mono ?_); rintro e w' ⟨rfl, ⟨nd, rfl⟩⟩))
     go_meet
     case rel => exact ⟨_, (true), (by first | rfl | (simp; done) | (simp [*]; done)), H', ⟨by first | omega | exact Nat.le_refl _⟩, ⟨by (with_reducible repeat (first | refine blk_drewN ?_ _ | refine blk_drew ?_ | refine blk_alloc ?_ _)); exact BK124.out⟩, ⟨by repeat (first | (with_reducible first | exact HB.out | apply below_alloc | apply pw_below_drewN | apply below_drew1 | refine below_set ?_ GE124.out) | exact HB.out)⟩⟩
 case rest =>
  clear HC2
  try clear c1
  try clear p1
  try clear q1
  try clear hx1
  try clear c2
  try clear p2
  try clear c5
  try clear c5b0
  try clear p6
  try clear c7
  try clear c7b0
  try clear c7b1
  try clear c10
  try clear c12
  try clear c12b0
  try clear c13
  try clear c13b0
  try clear p14
  try clear q14
  try clear hx14
  try clear c15
  try clear c15b0
  try clear c15b1
  try clear p14
  try clear q14
  obtain ⟨kq, x35_1, rfl, HA, HJ1, BK124, HB⟩ := hcut
  cases kq with
  | zero => exact absurd HA.out (by simp [glossaryref07_own.j0])
  | succ kj1 =>
   have H := HA.out
   clear HA
   simp only [glossaryref07_own.j0] at H
   by_cases c19 : x35_1 = true
   ·subst c19
    rw [if_pos rfl] at H
    obtain rfl := Option.some.inj H
    go_wp2
    go_ret
    exact ⟨by first | rfl | (simp [errW_none, errW_some] <;> rfl) | (simp [*, errW_none, errW_some] <;> rfl), by repeat (first | (with_reducible first | exact HB.out | apply below_alloc | apply pw_below_drewN | apply below_drew1 | refine below_set ?_ GE124.out) | exact HB.out)⟩
   ·replace c19 := Bool.eq_false_iff.mpr c19
    subst c19
    rw [if_neg (show ¬ (false = true) by decide)] at H
    have HC20 := Aside0.mk H
    clear H
    go_upto_region 4 with (fail)
    go_cut [63] (fun v63 wc => ∃ (kq : Nat) (x63_19 : Bool), v63 = .bool x63_19 ∧ Aside0 (glossaryref07_own.j1 kq a0_0 x63_19 a0_0 a0_1 a0_2 a0_3 a0_4 a0_5 a0_6 l0_7 = some r) ∧ Aside0 (kq ≤ kj1) ∧ Aside0 (wc.heap[gb124]? = some (.cells #[.int .i64 a0_0, .string a0_1, .int .i64 a0_2, .int .i64 a0_3, .int .i64 a0_4, .int .i64 a0_5, .string a0_6, (.slice A0_7 l0_7.length c0_7)] 24 (0, 0))) ∧ Aside0 (Below w.heap.size w wc))
    case first =>
     have H := HC20.out
     clear HC20
     by_cases c21 : a0_3 = 0
     ·rw [if_pos c21] at H
      have c21b0 : (a0_3 == 0) = true := beq_iff_eq.mpr c21
      have c21b1 : (a0_3 != 0) = false := bne_eq_false_iff_eq.mpr c21
      clear c21
      (first | rw [c21b0] | (simp only [i64_w, i32_w]; rw [c21b0]) | skip)
      by_cases c22 : a0_2 = 0
      ·rw [if_pos c22] at H
       have c22b0 : (a0_2 == 0) = true := beq_iff_eq.mpr c22
       have c22b1 : (a0_2 != 0) = false := bne_eq_false_iff_eq.mpr c22
       clear c22
       have H' := Aside0.mk H
       clear H
       obtain ⟨hcz23_0, hfz23_0, hcz23_1, hfz23_1, hcz23_2, hfz23_2, hcz23_3, hfz23_3, hcz23_4, hfz23_4, hcz23_5, hfz23_5, hcz23_6, hfz23_6, hcz23_7, hfz23_7⟩ := cells8 BK124.out
       go_wp2
       go_meet
       case rel => exact ⟨_, (false), (by first | rfl | (simp; done) | (simp [*]; done)), H', ⟨by have := HJ1.out; first | omega | exact Nat.le_refl _⟩, ⟨by (with_reducible repeat (first | refine blk_drewN ?_ _ | refine blk_drew ?_ | refine blk_alloc ?_ _)); exact BK124.out⟩, ⟨by repeat (first | (with_reducible first | exact HB.out | apply below_alloc | apply pw_below_drewN | apply below_drew1 | refine below_set ?_ GE124.out) | exact HB.out)⟩⟩
      ·rw [if_neg c22] at H
       have c22b0 : (a0_2 == 0) = false := beq_eq_false_iff_ne.mpr c22
       have c22b1 : (a0_2 != 0) = true := bne_iff_ne.mpr c22
       by_cases c24 : a0_0 = 14
       ·rw [if_pos c24] at H
        have c24b0 : (a0_0 == 14) = true := beq_iff_eq.mpr c24
        have c24b1 : (a0_0 != 14) = false := bne_eq_false_iff_eq.mpr c24
        clear c24
        have H' := Aside0.mk H
        clear H
        obtain ⟨hcz25_0, hfz25_0, hcz25_1, hfz25_1, hcz25_2, hfz25_2, hcz25_3, hfz25_3, hcz25_4, hfz25_4, hcz25_5, hfz25_5, hcz25_6, hfz25_6, hcz25_7, hfz25_7⟩ := cells8 BK124.out
        go_wp2
        go_meet
        case rel => exact ⟨_, (false), (by first | rfl | (simp; done) | (simp [*]; done)), H', ⟨by have := HJ1.out; first | omega | exact Nat.le_refl _⟩, ⟨by (with_reducible repeat (first | refine blk_drewN ?_ _ | refine blk_drew ?_ | refine blk_alloc ?_ _)); exact BK124.out⟩, ⟨by repeat (first | (with_reducible first | exact HB.out | apply below_alloc | apply pw_below_drewN | apply below_drew1 | refine below_set ?_ GE124.out) | exact HB.out)⟩⟩
       ·rw [if_neg c24] at H
        have c24b0 : (a0_0 == 14) = false := beq_eq_false_iff_ne.mpr c24
        have c24b1 : (a0_0 != 14) = true := bne_iff_ne.mpr c24
        by_cases c26 : a0_0 = 9
        ·rw [if_pos c26] at H
         have c26b0 : (a0_0 == 9) = true := beq_iff_eq.mpr c26
         have c26b1 : (a0_0 != 9) = false := bne_eq_false_iff_eq.mpr c26
         clear c26
         have H' := Aside0.mk H
         clear H
         obtain ⟨hcz27_0, hfz27_0, hcz27_1, hfz27_1, hcz27_2, hfz27_2, hcz27_3, hfz27_3, hcz27_4, hfz27_4, hcz27_5, hfz27_5, hcz27_6, hfz27_6, hcz27_7, hfz27_7⟩ := cells8 BK124.out
         go_wp2
         go_meet
         case rel => exact ⟨_, (false), (by first | rfl | (simp; done) | (simp [*]; done)), H', ⟨by have := HJ1.out; first | omega | exact Nat.le_refl _⟩, ⟨by (with_reducible repeat (first | refine blk_drewN ?_ _ | refine blk_drew ?_ | refine blk_alloc ?_ _)); exact BK124.out⟩, ⟨by repeat (first | (with_reducible first | exact HB.out | apply below_alloc | apply pw_below_drewN | apply below_drew1 | refine below_set ?_ GE124.out) | exact HB.out)⟩⟩
        ·rw [if_neg c26] at H
         have c26b0 : (a0_0 == 9) = false := beq_eq_false_iff_ne.mpr c26
         have c26b1 : (a0_0 != 9) = true := bne_iff_ne.mpr c26
         by_cases c28 : a0_0 = 10
         ·rw [if_pos c28] at H
          have c28b0 : (a0_0 == 10) = true := beq_iff_eq.mpr c28
          have c28b1 : (a0_0 != 10) = false := bne_eq_false_iff_eq.mpr c28
          clear c28
          have H' := Aside0.mk H
          clear H
          obtain ⟨hcz29_0, hfz29_0, hcz29_1, hfz29_1, hcz29_2, hfz29_2, hcz29_3, hfz29_3, hcz29_4, hfz29_4, hcz29_5, hfz29_5, hcz29_6, hfz29_6, hcz29_7, hfz29_7⟩ := cells8 BK124.out
          go_wp2
          go_meet
          case rel => exact ⟨_, (false), (by first | rfl | (simp; done) | (simp [*]; done)), H', ⟨by have := HJ1.out; first | omega | exact Nat.le_refl _⟩, ⟨by (with_reducible repeat (first | refine blk_drewN ?_ _ | refine blk_drew ?_ | refine blk_alloc ?_ _)); exact BK124.out⟩, ⟨by repeat (first | (with_reducible first | exact HB.out | apply below_alloc | apply pw_below_drewN | apply below_drew1 | refine below_set ?_ GE124.out) | exact HB.out)⟩⟩
         ·rw [if_neg c28] at H
          have c28b0 : (a0_0 == 10) = false := beq_eq_false_iff_ne.mpr c28
          have c28b1 : (a0_0 != 10) = true := bne_iff_ne.mpr c28
          have H' := Aside0.mk H
          clear H
          obtain ⟨hcz30_0, hfz30_0, hcz30_1, hfz30_1, hcz30_2, hfz30_2, hcz30_3, hfz30_3, hcz30_4, hfz30_4, hcz30_5, hfz30_5, hcz30_6, hfz30_6, hcz30_7, hfz30_7⟩ := cells8 BK124.out
          go_wp2
          go_meet
          case rel => exact ⟨_, ((a0_0 != 16)), (by first | rfl | (simp; done) | (simp [*]; done)), H', ⟨by have := HJ1.out; first | omega | exact Nat.le_refl _⟩, ⟨by (with_reducible repeat (first | refine blk_drewN ?_ _ | refine blk_drew ?_ | refine blk_alloc ?_ _)); exact BK124.out⟩, ⟨by repeat (first | (with_reducible first | exact HB.out | apply below_alloc | apply pw_below_drewN | apply below_drew1 | refine below_set ?_ GE124.out) | exact HB.out)⟩⟩
     ·rw [if_neg c21] at H
      have c21b0 : (a0_3 == 0) = false := beq_eq_false_iff_ne.mpr c21
      have c21b1 : (a0_3 != 0) = true := bne_iff_ne.mpr c21
      (first | rw [c21b0] | (simp only [i64_w, i32_w]; rw [c21b0]) | skip)
      by_cases c31 : a0_0 = 14
      ·rw [if_pos c31] at H
       have c31b0 : (a0_0 == 14) = true := beq_iff_eq.mpr c31
       have c31b1 : (a0_0 != 14) = false := bne_eq_false_iff_eq.mpr c31
       clear c31
       by_cases c32 : a0_2 = 0
       ·rw [if_pos c32] at H
        have c32b0 : (a0_2 == 0) = true := beq_iff_eq.mpr c32
        have c32b1 : (a0_2 != 0) = false := bne_eq_false_iff_eq.mpr c32
        clear c32
        have H' := Aside0.mk H
        clear H
        obtain ⟨hcz33_0, hfz33_0, hcz33_1, hfz33_1, hcz33_2, hfz33_2, hcz33_3, hfz33_3, hcz33_4, hfz33_4, hcz33_5, hfz33_5, hcz33_6, hfz33_6, hcz33_7, hfz33_7⟩ := cells8 BK124.out
        go_wp2
        go_meet
        case rel => exact ⟨_, (false), (by first | rfl | (simp; done) | (simp [*]; done)), H', ⟨by have := HJ1.out; first | omega | exact Nat.le_refl _⟩, ⟨by (with_reducible repeat (first | refine blk_drewN ?_ _ | refine blk_drew ?_ | refine blk_alloc ?_ _)); exact BK124.out⟩, ⟨by repeat (first | (with_reducible first | exact HB.out | apply below_alloc | apply pw_below_drewN | apply below_drew1 | refine below_set ?_ GE124.out) | exact HB.out)⟩⟩
       ·rw [if_neg c32] at H
        have c32b0 : (a0_2 == 0) = false := beq_eq_false_iff_ne.mpr c32
        have c32b1 : (a0_2 != 0) = true := bne_iff_ne.mpr c32
        have H' := Aside0.mk H
        clear H
        obtain ⟨hcz34_0, hfz34_0, hcz34_1, hfz34_1, hcz34_2, hfz34_2, hcz34_3, hfz34_3, hcz34_4, hfz34_4, hcz34_5, hfz34_5, hcz34_6, hfz34_6, hcz34_7, hfz34_7⟩ := cells8 BK124.out
        go_wp2
        go_meet
        case rel => exact ⟨_, (false), (by first | rfl | (simp; done) | (simp [*]; done)), H', ⟨by have := HJ1.out; first | omega | exact Nat.le_refl _⟩, ⟨by (with_reducible repeat (first | refine blk_drewN ?_ _ | refine blk_drew ?_ | refine blk_alloc ?_ _)); exact BK124.out⟩, ⟨by repeat (first | (with_reducible first | exact HB.out | apply below_alloc | apply pw_below_drewN | apply below_drew1 | refine below_set ?_ GE124.out) | exact HB.out)⟩⟩
      ·rw [if_neg c31] at H
       have c31b0 : (a0_0 == 14) = false := beq_eq_false_iff_ne.mpr c31
       have c31b1 : (a0_0 != 14) = true := bne_iff_ne.mpr c31
       have H' := Aside0.mk H
       clear H
       obtain ⟨hcz35_0, hfz35_0, hcz35_1, hfz35_1, hcz35_2, hfz35_2, hcz35_3, hfz35_3, hcz35_4, hfz35_4, hcz35_5, hfz35_5, hcz35_6, hfz35_6, hcz35_7, hfz35_7⟩ := cells8 BK124.out
       go_wp2
       go_meet
       case rel => exact ⟨_, (true), (by first | rfl | (simp; done) | (simp [*]; done)), H', ⟨by have := HJ1.out; first | omega | exact Nat.le_refl _⟩, ⟨by (with_reducible repeat (first | refine blk_drewN ?_ _ | refine blk_drew ?_ | refine blk_alloc ?_ _)); exact BK124.out⟩, ⟨by repeat (first | (with_reducible first | exact HB.out | apply below_alloc | apply pw_below_drewN | apply below_drew1 | refine below_set ?_ GE124.out) | exact HB.out)⟩⟩
    case rest =>
     clear HC20
     try clear c1
     try clear p1
     try clear q1
     try clear hx1
     try clear c2
     try clear p2
     try clear c3
     try clear c5
     try clear c5b0
     try clear p6
     try clear c7
     try clear c7b0
     try clear c7b1
     try clear c10
     try clear c12
     try clear c12b0
     try clear c13
     try clear c13b0
     try clear p14
     try clear q14
     try clear hx14
     try clear c15
     try clear c15b0
     try clear c15b1
     try clear c19
     try clear c21
     try clear c21b0
     try clear c21b1
     try clear c22
     try clear c22b0
     try clear c22b1
     try clear c24
     try clear c24b0
     try clear c24b1
     try clear c26
     try clear c26b0
     try clear c26b1
     try clear c28
     try clear c28b0
     try clear c28b1
     try clear c31
     try clear c31b0
     try clear c31b1
     try clear c32
     try clear c32b0
     try clear c32b1
     try clear p1
     try clear p14
     try clear p2
     try clear p6
     try clear q1
     try clear q14
     obtain ⟨kq, x63_19, rfl, HA, HJ19, BK124, HB⟩ := hcut
     cases kq with
     | zero => exact absurd HA.out (by simp [glossaryref07_own.j1])
     | succ kj19 =>
      have H := HA.out
      clear HA
      simp only [glossaryref07_own.j1] at H
      by_cases c36 : x63_19 = true
      ·subst c36
       rw [if_pos rfl] at H
       obtain rfl := Option.some.inj H
       go_wp2
       go_ret
       exact ⟨by first | rfl | (simp [errW_none, errW_some] <;> rfl) | (simp [*, errW_none, errW_some] <;> rfl), by repeat (first | (with_reducible first | exact HB.out | apply below_alloc | apply pw_below_drewN | apply below_drew1 | refine below_set ?_ GE124.out) | exact HB.out)⟩
      ·replace c36 := Bool.eq_false_iff.mpr c36
       subst c36
       rw [if_neg (show ¬ (false = true) by decide)] at H
       have HC37 := Aside0.mk H
       clear H
       go_upto_if 65 with (fail)
       go_cut [65] (fun v65 wc => ∃ (kq : Nat) (x65_36 : Bool), v65 = .bool x65_36 ∧ Aside0 (glossaryref07_own.j2 kq 0 a0_0 x65_36 a0_0 a0_1 a0_2 a0_3 a0_4 a0_5 a0_6 l0_7 = some r) ∧ Aside0 (kq ≤ kj19) ∧ Aside0 (wc.heap[gb124]? = some (.cells #[.int .i64 a0_0, .string a0_1, .int .i64 a0_2, .int .i64 a0_3, .int .i64 a0_4, .int .i64 a0_5, .string a0_6, (.slice A0_7 l0_7.length c0_7)] 24 (0, 0))) ∧ Aside0 (Below w.heap.size w wc))
       case first =>
        have H := HC37.out
        clear HC37
        by_cases c38 : a0_0 = 2
        ·rw [if_pos c38] at H
         have c38b0 : (a0_0 == 2) = true := beq_iff_eq.mpr c38
         have c38b1 : (a0_0 != 2) = false := bne_eq_false_iff_eq.mpr c38
         clear c38
         (first | rw [c38b0] | (simp only [i64_w, i32_w]; rw [c38b0]) | skip)
         have H' := Aside0.mk H
         clear H
         go_wp2
         go_meet
         case rel => exact ⟨_, ((a0_0 == 2)), (by first | rfl | (simp; done) | (simp [*]; done)), H', ⟨by have := HJ1.out; have := HJ19.out; first | omega | exact Nat.le_refl _⟩, ⟨by (with_reducible repeat (first | refine blk_drewN ?_ _ | refine blk_drew ?_ | refine blk_alloc ?_ _)); exact BK124.out⟩, ⟨by repeat (first | (with_reducible first | exact HB.out | apply below_alloc | apply pw_below_drewN | apply below_drew1 | refine below_set ?_ GE124.out) | exact HB.out)⟩⟩
        ·rw [if_neg c38] at H
         have c38b0 : (a0_0 == 2) = false := beq_eq_false_iff_ne.mpr c38
         have c38b1 : (a0_0 != 2) = true := bne_iff_ne.mpr c38
         (first | rw [c38b0] | (simp only [i64_w, i32_w]; rw [c38b0]) | skip)
         by_cases c39 : a0_0 = 19
         ·rw [if_pos c39] at H
          have c39b0 : (a0_0 == 19) = true := beq_iff_eq.mpr c39
          have c39b1 : (a0_0 != 19) = false := bne_eq_false_iff_eq.mpr c39
          clear c39
          have H' := Aside0.mk H
          clear H
          go_wp2
          go_meet
          case rel => exact ⟨_, ((a0_0 == 19)), (by first | rfl | (simp; done) | (simp [*]; done)), H', ⟨by have := HJ1.out; have := HJ19.out; first | omega | exact Nat.le_refl _⟩, ⟨by (with_reducible repeat (first | refine blk_drewN ?_ _ | refine blk_drew ?_ | refine blk_alloc ?_ _)); exact BK124.out⟩, ⟨by repeat (first | (with_reducible first | exact HB.out | apply below_alloc | apply pw_below_drewN | apply below_drew1 | refine below_set ?_ GE124.out) | exact HB.out)⟩⟩
         ·rw [if_neg c39] at H
          have c39b0 : (a0_0 == 19) = false := beq_eq_false_iff_ne.mpr c39
          have c39b1 : (a0_0 != 19) = true := bne_iff_ne.mpr c39
          have H' := Aside0.mk H
          clear H
          go_wp2
          go_meet
          case rel => exact ⟨_, ((a0_0 == 24)), (by first | rfl | (simp; done) | (simp [*]; done)), H', ⟨by have := HJ1.out; have := HJ19.out; first | omega | exact Nat.le_refl _⟩, ⟨by (with_reducible repeat (first | refine blk_drewN ?_ _ | refine blk_drew ?_ | refine blk_alloc ?_ _)); exact BK124.out⟩, ⟨by repeat (first | (with_reducible first | exact HB.out | apply below_alloc | apply pw_below_drewN | apply below_drew1 | refine below_set ?_ GE124.out) | exact HB.out)⟩⟩
       case rest =>
        clear HC37
        try clear c1
        try clear p1
        try clear q1
        try clear hx1
        try clear c2
        try clear p2
        try clear c3
        try clear c5
        try clear c5b0
        try clear p6
        try clear c7
        try clear c7b0
        try clear c7b1
        try clear c10
        try clear c12
        try clear c12b0
        try clear c13
        try clear c13b0
        try clear p14
        try clear q14
        try clear hx14
        try clear c15
        try clear c15b0
        try clear c15b1
        try clear c19
        try clear c21
        try clear c21b0
        try clear c21b1
        try clear c22
        try clear c22b0
        try clear c22b1
        try clear c24
        try clear c24b0
        try clear c24b1
        try clear c26
        try clear c26b0
        try clear c26b1
        try clear c28
        try clear c28b0
        try clear c28b1
        try clear c31
        try clear c31b0
        try clear c31b1
        try clear c32
        try clear c32b0
        try clear c32b1
        try clear c36
        try clear c38
        try clear c38b0
        try clear c38b1
        try clear c39
        try clear c39b0
        try clear c39b1
        try clear p1
        try clear p14
        try clear p2
        try clear p6
        try clear q1
        try clear q14
        obtain ⟨kq, x65_36, rfl, HA, HJ36, BK124, HB⟩ := hcut
        cases kq with
        | zero => exact absurd HA.out (by simp [glossaryref07_own.j2])
        | succ kj36 =>
         have H := HA.out
         clear HA
         simp only [glossaryref07_own.j2] at H
         by_cases c40 : x65_36 = true
         ·subst c40
          rw [if_pos rfl] at H
          by_cases c41 : a0_4 ≥ 0
          ·rw [if_pos c41] at H
           have c41b0 : decide (0 ≤ a0_4) = true := decide_eq_true c41
           clear c41
           by_cases c42 : a0_4 ≤ 1
           ·rw [if_pos c42] at H
            have c42b0 : decide (a0_4 ≤ 1) = true := decide_eq_true c42
            clear c42
            replace H := Option.bind_eq_some_iff.mp H
            obtain ⟨t126, A430, H⟩ := H
            try dsimp only at H
            have A43 := Aside0.mk A430
            clear A430
            by_cases c44 : t126 = true
            ·subst c44
             rw [if_pos rfl] at H
             replace H := Option.bind_eq_some_iff.mp H
             obtain ⟨t127, A450, H⟩ := H
             try dsimp only at H
             have A45 := Aside0.mk A450
             clear A450
             by_cases c46 : t127 = true
             ·subst c46
              rw [if_pos rfl] at H
              replace H := Option.bind_eq_some_iff.mp H
              obtain ⟨t128, A470, H⟩ := H
              try dsimp only at H
              have A47 := Aside0.mk A470
              clear A470
              obtain rfl := Option.some.inj H
              obtain ⟨hcz48_0, hfz48_0, hcz48_1, hfz48_1, hcz48_2, hfz48_2, hcz48_3, hfz48_3, hcz48_4, hfz48_4, hcz48_5, hfz48_5, hcz48_6, hfz48_6, hcz48_7, hfz48_7⟩ := cells8 BK124.out
              go_wp2_with (first | (go_at_call 27; (with_reducible refine (glossaryref07_text.calls kj36 a0_0 a0_1 a0_2 a0_3 a0_4 a0_5 a0_6 _ _ l0_7 true _ ?side1 ?side2 A43.out).mono ?_); (case side1 => repeat (first | exact (Kd.C_below HR0_7.out HB.out) | (with_reducible refine Kd.C_alloc ?_ _) | (with_reducible refine Kd.C_drewN ?_ _) | (with_reducible refine Kd.C_drew ?_))); (case side2 => exact HC0_7.out); rintro e w49 ⟨rfl, hb⟩; have n0_ := Aside0.mk (blk_below (g := gb124) (o := .cells #[.int .i64 a0_0, .string a0_1, .int .i64 a0_2, .int .i64 a0_3, .int .i64 a0_4, .int .i64 a0_5, .string a0_6, .slice A0_7 l0_7.length c0_7] 24 (0, 0)) (by (with_reducible repeat (first | refine blk_drewN ?_ _ | refine blk_drew ?_ | refine blk_alloc ?_ _)); exact BK124.out) hb); have n1_ := Aside0.mk (below_step (by repeat (first | (with_reducible first | exact HB.out | apply below_alloc | apply pw_below_drewN | apply below_drew1 | refine below_set ?_ GE124.out) | exact HB.out)) hb); clear BK124; clear HB; have BK124 := n0_; have HB := n1_; clear n0_ n1_; (try clear hb); (try clear hb2); (try clear hk); (try clear hi); have hcz50_0 : w49.cell? ⟨gb124, 0, none⟩ = some (.int .i64 a0_0) := (blk_cell BK124.out 0).trans rfl; have hcz50_1 : w49.cell? ⟨gb124, 1, none⟩ = some (.string a0_1) := (blk_cell BK124.out 1).trans rfl; have hcz50_2 : w49.cell? ⟨gb124, 2, none⟩ = some (.int .i64 a0_2) := (blk_cell BK124.out 2).trans rfl; have hcz50_3 : w49.cell? ⟨gb124, 3, none⟩ = some (.int .i64 a0_3) := (blk_cell BK124.out 3).trans rfl; have hcz50_4 : w49.cell? ⟨gb124, 4, none⟩ = some (.int .i64 a0_4) := (blk_cell BK124.out 4).trans rfl; have hcz50_5 : w49.cell? ⟨gb124, 5, none⟩ = some (.int .i64 a0_5) := (blk_cell BK124.out 5).trans rfl; have hcz50_6 : w49.cell? ⟨gb124, 6, none⟩ = some (.string a0_6) := (blk_cell BK124.out 6).trans rfl; have hcz50_7 : w49.cell? ⟨gb124, 7, none⟩ = some (.slice A0_7 l0_7.length c0_7) := (blk_cell BK124.out 7).trans rfl; have hfz50_0 := blk_frozen BK124.out 0; have hfz50_1 := blk_frozen BK124.out 1; have hfz50_2 := blk_frozen BK124.out 2; have hfz50_3 := blk_frozen BK124.out 3; have hfz50_4 := blk_frozen BK124.out 4; have hfz50_5 := blk_frozen BK124.out 5; have hfz50_6 := blk_frozen BK124.out 6; have hfz50_7 := blk_frozen BK124.out 7) | (go_at_call 28; (with_reducible refine (glossaryref07_number.calls kj36 a0_0 a0_1 a0_2 a0_3 a0_4 a0_5 a0_6 _ _ l0_7 true _ ?side1 ?side2 A45.out).mono ?_); (case side1 => repeat (first | exact (Kd.C_below HR0_7.out HB.out) | (with_reducible refine Kd.C_alloc ?_ _) | (with_reducible refine Kd.C_drewN ?_ _) | (with_reducible refine Kd.C_drew ?_))); (case side2 => exact HC0_7.out); rintro e w51 ⟨rfl, hb⟩; have n0_ := Aside0.mk (blk_below (g := gb124) (o := .cells #[.int .i64 a0_0, .string a0_1, .int .i64 a0_2, .int .i64 a0_3, .int .i64 a0_4, .int .i64 a0_5, .string a0_6, .slice A0_7 l0_7.length c0_7] 24 (0, 0)) (by (with_reducible repeat (first | refine blk_drewN ?_ _ | refine blk_drew ?_ | refine blk_alloc ?_ _)); exact BK124.out) hb); have n1_ := Aside0.mk (below_step (by repeat (first | (with_reducible first | exact HB.out | apply below_alloc | apply pw_below_drewN | apply below_drew1 | refine below_set ?_ GE124.out) | exact HB.out)) hb); clear BK124; clear HB; have BK124 := n0_; have HB := n1_; clear n0_ n1_; (try clear hb); (try clear hb2); (try clear hk); (try clear hi); have hcz52_0 : w51.cell? ⟨gb124, 0, none⟩ = some (.int .i64 a0_0) := (blk_cell BK124.out 0).trans rfl; have hcz52_1 : w51.cell? ⟨gb124, 1, none⟩ = some (.string a0_1) := (blk_cell BK124.out 1).trans rfl; have hcz52_2 : w51.cell? ⟨gb124, 2, none⟩ = some (.int .i64 a0_2) := (blk_cell BK124.out 2).trans rfl; have hcz52_3 : w51.cell? ⟨gb124, 3, none⟩ = some (.int .i64 a0_3) := (blk_cell BK124.out 3).trans rfl; have hcz52_4 : w51.cell? ⟨gb124, 4, none⟩ = some (.int .i64 a0_4) := (blk_cell BK124.out 4).trans rfl; have hcz52_5 : w51.cell? ⟨gb124, 5, none⟩ = some (.int .i64 a0_5) := (blk_cell BK124.out 5).trans rfl; have hcz52_6 : w51.cell? ⟨gb124, 6, none⟩ = some (.string a0_6) := (blk_cell BK124.out 6).trans rfl; have hcz52_7 : w51.cell? ⟨gb124, 7, none⟩ = some (.slice A0_7 l0_7.length c0_7) := (blk_cell BK124.out 7).trans rfl; have hfz52_0 := blk_frozen BK124.out 0; have hfz52_1 := blk_frozen BK124.out 1; have hfz52_2 := blk_frozen BK124.out 2; have hfz52_3 := blk_frozen BK124.out 3; have hfz52_4 := blk_frozen BK124.out 4; have hfz52_5 := blk_frozen BK124.out 5; have hfz52_6 := blk_frozen BK124.out 6; have hfz52_7 := blk_frozen BK124.out 7) | (go_at_call 29; (with_reducible refine (glossaryref07_kids.calls kj36 a0_0 a0_1 a0_2 a0_3 a0_4 a0_5 a0_6 _ _ l0_7 t128 _ ?side1 ?side2 A47.out).mono ?_); (case side1 => repeat (first | exact (Kd.C_below HR0_7.out HB.out) | (with_reducible refine Kd.C_alloc ?_ _) | (with_reducible refine Kd.C_drewN ?_ _) | (with_reducible refine Kd.C_drew ?_))); (case side2 => exact HC0_7.out); rintro e w53 ⟨rfl, hb⟩; have n0_ := Aside0.mk (blk_below (g := gb124) (o := .cells #[.int .i64 a0_0, .string a0_1, .int .i64 a0_2, .int .i64 a0_3, .int .i64 a0_4, .int .i64 a0_5, .string a0_6, .slice A0_7 l0_7.length c0_7] 24 (0, 0)) (by (with_reducible repeat (first | refine blk_drewN ?_ _ | refine blk_drew ?_ | refine blk_alloc ?_ _)); exact BK124.out) hb); have n1_ := Aside0.mk (below_step (by repeat (first | (with_reducible first | exact HB.out | apply below_alloc | apply pw_below_drewN | apply below_drew1 | refine below_set ?_ GE124.out) | exact HB.out)) hb); clear BK124; clear HB; have BK124 := n0_; have HB := n1_; clear n0_ n1_; (try clear hb); (try clear hb2); (try clear hk); (try clear hi)))
              go_ret
              exact ⟨by first | rfl | (simp [errW_none, errW_some] <;> rfl) | (simp [*, errW_none, errW_some] <;> rfl), by repeat (first | (with_reducible first | exact HB.out | apply below_alloc | apply pw_below_drewN | apply below_drew1 | refine below_set ?_ GE124.out) | exact HB.out)⟩
             ·replace c46 := Bool.eq_false_iff.mpr c46
              subst c46
              rw [if_neg (show ¬ (false = true) by decide)] at H
              obtain rfl := Option.some.inj H
              obtain ⟨hcz54_0, hfz54_0, hcz54_1, hfz54_1, hcz54_2, hfz54_2, hcz54_3, hfz54_3, hcz54_4, hfz54_4, hcz54_5, hfz54_5, hcz54_6, hfz54_6, hcz54_7, hfz54_7⟩ := cells8 BK124.out
              go_wp2_with (first | (go_at_call 27; (with_reducible refine (glossaryref07_text.calls kj36 a0_0 a0_1 a0_2 a0_3 a0_4 a0_5 a0_6 _ _ l0_7 true _ ?side1 ?side2 A43.out).mono ?_); (case side1 => repeat (first | exact (Kd.C_below HR0_7.out HB.out) | (with_reducible refine Kd.C_alloc ?_ _) | (with_reducible refine Kd.C_drewN ?_ _) | (with_reducible refine Kd.C_drew ?_))); (case side2 => exact HC0_7.out); rintro e w55 ⟨rfl, hb⟩; have n0_ := Aside0.mk (blk_below (g := gb124) (o := .cells #[.int .i64 a0_0, .string a0_1, .int .i64 a0_2, .int .i64 a0_3, .int .i64 a0_4, .int .i64 a0_5, .string a0_6, .slice A0_7 l0_7.length c0_7] 24 (0, 0)) (by (with_reducible repeat (first | refine blk_drewN ?_ _ | refine blk_drew ?_ | refine blk_alloc ?_ _)); exact BK124.out) hb); have n1_ := Aside0.mk (below_step (by repeat (first | (with_reducible first | exact HB.out | apply below_alloc | apply pw_below_drewN | apply below_drew1 | refine below_set ?_ GE124.out) | exact HB.out)) hb); clear BK124; clear HB; have BK124 := n0_; have HB := n1_; clear n0_ n1_; (try clear hb); (try clear hb2); (try clear hk); (try clear hi); have hcz56_0 : w55.cell? ⟨gb124, 0, none⟩ = some (.int .i64 a0_0) := (blk_cell BK124.out 0).trans rfl; have hcz56_1 : w55.cell? ⟨gb124, 1, none⟩ = some (.string a0_1) := (blk_cell BK124.out 1).trans rfl; have hcz56_2 : w55.cell? ⟨gb124, 2, none⟩ = some (.int .i64 a0_2) := (blk_cell BK124.out 2).trans rfl; have hcz56_3 : w55.cell? ⟨gb124, 3, none⟩ = some (.int .i64 a0_3) := (blk_cell BK124.out 3).trans rfl; have hcz56_4 : w55.cell? ⟨gb124, 4, none⟩ = some (.int .i64 a0_4) := (blk_cell BK124.out 4).trans rfl; have hcz56_5 : w55.cell? ⟨gb124, 5, none⟩ = some (.int .i64 a0_5) := (blk_cell BK124.out 5).trans rfl; have hcz56_6 : w55.cell? ⟨gb124, 6, none⟩ = some (.string a0_6) := (blk_cell BK124.out 6).trans rfl; have hcz56_7 : w55.cell? ⟨gb124, 7, none⟩ = some (.slice A0_7 l0_7.length c0_7) := (blk_cell BK124.out 7).trans rfl; have hfz56_0 := blk_frozen BK124.out 0; have hfz56_1 := blk_frozen BK124.out 1; have hfz56_2 := blk_frozen BK124.out 2; have hfz56_3 := blk_frozen BK124.out 3; have hfz56_4 := blk_frozen BK124.out 4; have hfz56_5 := blk_frozen BK124.out 5; have hfz56_6 := blk_frozen BK124.out 6; have hfz56_7 := blk_frozen BK124.out 7) | (go_at_call 28; (with_reducible refine (glossaryref07_number.calls kj36 a0_0 a0_1 a0_2 a0_3 a0_4 a0_5 a0_6 _ _ l0_7 false _ ?side1 ?side2 A45.out).mono ?_); (case side1 => repeat (first | exact (Kd.C_below HR0_7.out HB.out) | (with_reducible refine Kd.C_alloc ?_ _) | (with_reducible refine Kd.C_drewN ?_ _) | (with_reducible refine Kd.C_drew ?_))); (case side2 => exact HC0_7.out); rintro e w57 ⟨rfl, hb⟩; have n0_ := Aside0.mk (blk_below (g := gb124) (o := .cells #[.int .i64 a0_0, .string a0_1, .int .i64 a0_2, .int .i64 a0_3, .int .i64 a0_4, .int .i64 a0_5, .string a0_6, .slice A0_7 l0_7.length c0_7] 24 (0, 0)) (by (with_reducible repeat (first | refine blk_drewN ?_ _ | refine blk_drew ?_ | refine blk_alloc ?_ _)); exact BK124.out) hb); have n1_ := Aside0.mk (below_step (by repeat (first | (with_reducible first | exact HB.out | apply below_alloc | apply pw_below_drewN | apply below_drew1 | refine below_set ?_ GE124.out) | exact HB.out)) hb); clear BK124; clear HB; have BK124 := n0_; have HB := n1_; clear n0_ n1_; (try clear hb); (try clear hb2); (try clear hk); (try clear hi)))
              go_ret
              exact ⟨by first | rfl | (simp [errW_none, errW_some] <;> rfl) | (simp [*, errW_none, errW_some] <;> rfl), by repeat (first | (with_reducible first | exact HB.out | apply below_alloc | apply pw_below_drewN | apply below_drew1 | refine below_set ?_ GE124.out) | exact HB.out)⟩
            ·replace c44 := Bool.eq_false_iff.mpr c44
             subst c44
             rw [if_neg (show ¬ (false = true) by decide)] at H
             obtain rfl := Option.some.inj H
             obtain ⟨hcz58_0, hfz58_0, hcz58_1, hfz58_1, hcz58_2, hfz58_2, hcz58_3, hfz58_3, hcz58_4, hfz58_4, hcz58_5, hfz58_5, hcz58_6, hfz58_6, hcz58_7, hfz58_7⟩ := cells8 BK124.out
             go_wp2_with (first | (go_at_call 27; (with_reducible refine (glossaryref07_text.calls kj36 a0_0 a0_1 a0_2 a0_3 a0_4 a0_5 a0_6 _ _ l0_7 false _ ?side1 ?side2 A43.out).mono ?_); (case side1 => repeat (first | exact (Kd.C_below HR0_7.out HB.out) | (with_reducible refine Kd.C_alloc ?_ _) | (with_reducible refine Kd.C_drewN ?_ _) | (with_reducible refine Kd.C_drew ?_))); (case side2 => exact HC0_7.out); rintro e w59 ⟨rfl, hb⟩; have n0_ := Aside0.mk (blk_below (g := gb124) (o := .cells #[.int .i64 a0_0, .string a0_1, .int .i64 a0_2, .int .i64 a0_3, .int .i64 a0_4, .int .i64 a0_5, .string a0_6, .slice A0_7 l0_7.length c0_7] 24 (0, 0)) (by (with_reducible repeat (first | refine blk_drewN ?_ _ | refine blk_drew ?_ | refine blk_alloc ?_ _)); exact BK124.out) hb); have n1_ := Aside0.mk (below_step (by repeat (first | (with_reducible first | exact HB.out | apply below_alloc | apply pw_below_drewN | apply below_drew1 | refine below_set ?_ GE124.out) | exact HB.out)) hb); clear BK124; clear HB; have BK124 := n0_; have HB := n1_; clear n0_ n1_; (try clear hb); (try clear hb2); (try clear hk); (try clear hi)))
             go_ret
             exact ⟨by first | rfl | (simp [errW_none, errW_some] <;> rfl) | (simp [*, errW_none, errW_some] <;> rfl), by repeat (first | (with_reducible first | exact HB.out | apply below_alloc | apply pw_below_drewN | apply below_drew1 | refine below_set ?_ GE124.out) | exact HB.out)⟩
           ·rw [if_neg c42] at H
            have c42b0 : decide (a0_4 ≤ 1) = false := decide_eq_false c42
            clear c42
            obtain rfl := Option.some.inj H
            obtain ⟨hcz60_0, hfz60_0, hcz60_1, hfz60_1, hcz60_2, hfz60_2, hcz60_3, hfz60_3, hcz60_4, hfz60_4, hcz60_5, hfz60_5, hcz60_6, hfz60_6, hcz60_7, hfz60_7⟩ := cells8 BK124.out
            go_wp2
            go_ret
            exact ⟨by first | rfl | (simp [errW_none, errW_some] <;> rfl) | (simp [*, errW_none, errW_some] <;> rfl), by repeat (first | (with_reducible first | exact HB.out | apply below_alloc | apply pw_below_drewN | apply below_drew1 | refine below_set ?_ GE124.out) | exact HB.out)⟩
          ·rw [if_neg c41] at H
           have c41b0 : decide (0 ≤ a0_4) = false := decide_eq_false c41
           clear c41
           obtain rfl := Option.some.inj H
           obtain ⟨hcz61_0, hfz61_0, hcz61_1, hfz61_1, hcz61_2, hfz61_2, hcz61_3, hfz61_3, hcz61_4, hfz61_4, hcz61_5, hfz61_5, hcz61_6, hfz61_6, hcz61_7, hfz61_7⟩ := cells8 BK124.out
           go_wp2
           go_ret
           exact ⟨by first | rfl | (simp [errW_none, errW_some] <;> rfl) | (simp [*, errW_none, errW_some] <;> rfl), by repeat (first | (with_reducible first | exact HB.out | apply below_alloc | apply pw_below_drewN | apply below_drew1 | refine below_set ?_ GE124.out) | exact HB.out)⟩
         ·replace c40 := Bool.eq_false_iff.mpr c40
          subst c40
          rw [if_neg (show ¬ (false = true) by decide)] at H
          have HC62 := Aside0.mk H
          clear H
          go_upto_if 69 with (fail)
          go_cut [69] (fun v69 wc => ∃ (kq : Nat) (x69_61 : Bool), v69 = .bool x69_61 ∧ Aside0 (glossaryref07_own.j3 kq 0 x69_61 a0_0 a0_1 a0_2 a0_3 a0_4 a0_5 a0_6 l0_7 = some r) ∧ Aside0 (kq ≤ kj36) ∧ Aside0 (wc.heap[gb124]? = some (.cells #[.int .i64 a0_0, .string a0_1, .int .i64 a0_2, .int .i64 a0_3, .int .i64 a0_4, .int .i64 a0_5, .string a0_6, (.slice A0_7 l0_7.length c0_7)] 24 (0, 0))) ∧ Aside0 (Below w.heap.size w wc))
          case first =>
           have H := HC62.out
           clear HC62
           by_cases c63 : a0_0 = 9
           ·rw [if_pos c63] at H
            have c63b0 : (a0_0 == 9) = true := beq_iff_eq.mpr c63
            have c63b1 : (a0_0 != 9) = false := bne_eq_false_iff_eq.mpr c63
            clear c63
            (first | rw [c63b0] | (simp only [i64_w, i32_w]; rw [c63b0]) | skip)
            have H' := Aside0.mk H
            clear H
            go_wp2
            go_meet
            case rel => exact ⟨_, ((a0_0 == 9)), (by first | rfl | (simp; done) | (simp [*]; done)), H', ⟨by have := HJ1.out; have := HJ19.out; have := HJ36.out; first | omega | exact Nat.le_refl _⟩, ⟨by (with_reducible repeat (first | refine blk_drewN ?_ _ | refine blk_drew ?_ | refine blk_alloc ?_ _)); exact BK124.out⟩, ⟨by repeat (first | (with_reducible first | exact HB.out | apply below_alloc | apply pw_below_drewN | apply below_drew1 | refine below_set ?_ GE124.out) | exact HB.out)⟩⟩
           ·rw [if_neg c63] at H
            have c63b0 : (a0_0 == 9) = false := beq_eq_false_iff_ne.mpr c63
            have c63b1 : (a0_0 != 9) = true := bne_iff_ne.mpr c63
            (first | rw [c63b0] | (simp only [i64_w, i32_w]; rw [c63b0]) | skip)
            have H' := Aside0.mk H
            clear H
            go_wp2
            go_meet
            case rel => exact ⟨_, ((a0_0 == 17)), (by first | rfl | (simp; done) | (simp [*]; done)), H', ⟨by have := HJ1.out; have := HJ19.out; have := HJ36.out; first | omega | exact Nat.le_refl _⟩, ⟨by (with_reducible repeat (first | refine blk_drewN ?_ _ | refine blk_drew ?_ | refine blk_alloc ?_ _)); exact BK124.out⟩, ⟨by repeat (first | (with_reducible first | exact HB.out | apply below_alloc | apply pw_below_drewN | apply below_drew1 | refine below_set ?_ GE124.out) | exact HB.out)⟩⟩
          case rest =>
           clear HC62
           try clear c1
           try clear p1
           try clear q1
           try clear hx1
           try clear c2
           try clear p2
           try clear c3
           try clear c4
           try clear c5
           try clear c5b0
           try clear c6
           try clear p6
           try clear c7
           try clear c7b0
           try clear c7b1
           try clear c10
           try clear c12
           try clear c12b0
           try clear c13
           try clear c13b0
           try clear p14
           try clear q14
           try clear hx14
           try clear c15
           try clear c15b0
           try clear c15b1
           try clear c19
           try clear c21
           try clear c21b0
           try clear c21b1
           try clear c22
           try clear c22b0
           try clear c22b1
           try clear c24
           try clear c24b0
           try clear c24b1
           try clear c26
           try clear c26b0
           try clear c26b1
           try clear c28
           try clear c28b0
           try clear c28b1
           try clear c31
           try clear c31b0
           try clear c31b1
           try clear c32
           try clear c32b0
           try clear c32b1
           try clear c36
           try clear c38
           try clear c38b0
           try clear c38b1
           try clear c39
           try clear c39b0
           try clear c39b1
           try clear c40
           try clear c41
           try clear c41b0
           try clear c42
           try clear c42b0
           try clear c44
           try clear c46
           try clear c63
           try clear c63b0
           try clear c63b1
           try clear p1
           try clear p14
           try clear p2
           try clear p6
           try clear q1
           try clear q14
           obtain ⟨kq, x69_61, rfl, HA, HJ61, BK124, HB⟩ := hcut
           cases kq with
           | zero => exact absurd HA.out (by simp [glossaryref07_own.j3])
           | succ kj61 =>
            have H := HA.out
            clear HA
            simp only [glossaryref07_own.j3] at H
            by_cases c64 : x69_61 = true
            ·subst c64
             rw [if_pos rfl] at H
             by_cases c65 : a0_4 ≥ 0
             ·rw [if_pos c65] at H
              have c65b0 : decide (0 ≤ a0_4) = true := decide_eq_true c65
              clear c65
              by_cases c66 : a0_4 ≤ 3
              ·rw [if_pos c66] at H
               have c66b0 : decide (a0_4 ≤ 3) = true := decide_eq_true c66
               clear c66
               replace H := Option.bind_eq_some_iff.mp H
               obtain ⟨t129, A670, H⟩ := H
               try dsimp only at H
               have A67 := Aside0.mk A670
               clear A670
               by_cases c68 : t129 = true
               ·subst c68
                rw [if_pos rfl] at H
                replace H := Option.bind_eq_some_iff.mp H
                obtain ⟨t130, A690, H⟩ := H
                try dsimp only at H
                have A69 := Aside0.mk A690
                clear A690
                by_cases c70 : t130 = true
                ·subst c70
                 rw [if_pos rfl] at H
                 replace H := Option.bind_eq_some_iff.mp H
                 obtain ⟨t131, A710, H⟩ := H
                 try dsimp only at H
                 have A71 := Aside0.mk A710
                 clear A710
                 obtain rfl := Option.some.inj H
                 obtain ⟨hcz72_0, hfz72_0, hcz72_1, hfz72_1, hcz72_2, hfz72_2, hcz72_3, hfz72_3, hcz72_4, hfz72_4, hcz72_5, hfz72_5, hcz72_6, hfz72_6, hcz72_7, hfz72_7⟩ := cells8 BK124.out
                 go_wp2_with (first | (go_at_call 27; (with_reducible refine (glossaryref07_text.calls kj61 a0_0 a0_1 a0_2 a0_3 a0_4 a0_5 a0_6 _ _ l0_7 true _ ?side1 ?side2 A67.out).mono ?_); (case side1 => repeat (first | exact (Kd.C_below HR0_7.out HB.out) | (with_reducible refine Kd.C_alloc ?_ _) | (with_reducible refine Kd.C_drewN ?_ _) | (with_reducible refine Kd.C_drew ?_))); (case side2 => exact HC0_7.out); rintro e w73 ⟨rfl, hb⟩; have n0_ := Aside0.mk (blk_below (g := gb124) (o := .cells #[.int .i64 a0_0, .string a0_1, .int .i64 a0_2, .int .i64 a0_3, .int .i64 a0_4, .int .i64 a0_5, .string a0_6, .slice A0_7 l0_7.length c0_7] 24 (0, 0)) (by (with_reducible repeat (first | refine blk_drewN ?_ _ | refine blk_drew ?_ | refine blk_alloc ?_ _)); exact BK124.out) hb); have n1_ := Aside0.mk (below_step (by repeat (first | (with_reducible first | exact HB.out | apply below_alloc | apply pw_below_drewN | apply below_drew1 | refine below_set ?_ GE124.out) | exact HB.out)) hb); clear BK124; clear HB; have BK124 := n0_; have HB := n1_; clear n0_ n1_; (try clear hb); (try clear hb2); (try clear hk); (try clear hi); have hcz74_0 : w73.cell? ⟨gb124, 0, none⟩ = some (.int .i64 a0_0) := (blk_cell BK124.out 0).trans rfl; have hcz74_1 : w73.cell? ⟨gb124, 1, none⟩ = some (.string a0_1) := (blk_cell BK124.out 1).trans rfl; have hcz74_2 : w73.cell? ⟨gb124, 2, none⟩ = some (.int .i64 a0_2) := (blk_cell BK124.out 2).trans rfl; have hcz74_3 : w73.cell? ⟨gb124, 3, none⟩ = some (.int .i64 a0_3) := (blk_cell BK124.out 3).trans rfl; have hcz74_4 : w73.cell? ⟨gb124, 4, none⟩ = some (.int .i64 a0_4) := (blk_cell BK124.out 4).trans rfl; have hcz74_5 : w73.cell? ⟨gb124, 5, none⟩ = some (.int .i64 a0_5) := (blk_cell BK124.out 5).trans rfl; have hcz74_6 : w73.cell? ⟨gb124, 6, none⟩ = some (.string a0_6) := (blk_cell BK124.out 6).trans rfl; have hcz74_7 : w73.cell? ⟨gb124, 7, none⟩ = some (.slice A0_7 l0_7.length c0_7) := (blk_cell BK124.out 7).trans rfl; have hfz74_0 := blk_frozen BK124.out 0; have hfz74_1 := blk_frozen BK124.out 1; have hfz74_2 := blk_frozen BK124.out 2; have hfz74_3 := blk_frozen BK124.out 3; have hfz74_4 := blk_frozen BK124.out 4; have hfz74_5 := blk_frozen BK124.out 5; have hfz74_6 := blk_frozen BK124.out 6; have hfz74_7 := blk_frozen BK124.out 7) | (go_at_call 28; (with_reducible refine (glossaryref07_number.calls kj61 a0_0 a0_1 a0_2 a0_3 a0_4 a0_5 a0_6 _ _ l0_7 true _ ?side1 ?side2 A69.out).mono ?_); (case side1 => repeat (first | exact (Kd.C_below HR0_7.out HB.out) | (with_reducible refine Kd.C_alloc ?_ _) | (with_reducible refine Kd.C_drewN ?_ _) | (with_reducible refine Kd.C_drew ?_))); (case side2 => exact HC0_7.out); rintro e w75 ⟨rfl, hb⟩; have n0_ := Aside0.mk (blk_below (g := gb124) (o := .cells #[.int .i64 a0_0, .string a0_1, .int .i64 a0_2, .int .i64 a0_3, .int .i64 a0_4, .int .i64 a0_5, .string a0_6, .slice A0_7 l0_7.length c0_7] 24 (0, 0)) (by (with_reducible repeat (first | refine blk_drewN ?_ _ | refine blk_drew ?_ | refine blk_alloc ?_ _)); exact BK124.out) hb); have n1_ := Aside0.mk (below_step (by repeat (first | (with_reducible first | exact HB.out | apply below_alloc | apply pw_below_drewN | apply below_drew1 | refine below_set ?_ GE124.out) | exact HB.out)) hb); clear BK124; clear HB; have BK124 := n0_; have HB := n1_; clear n0_ n1_; (try clear hb); (try clear hb2); (try clear hk); (try clear hi); have hcz76_0 : w75.cell? ⟨gb124, 0, none⟩ = some (.int .i64 a0_0) := (blk_cell BK124.out 0).trans rfl; have hcz76_1 : w75.cell? ⟨gb124, 1, none⟩ = some (.string a0_1) := (blk_cell BK124.out 1).trans rfl; have hcz76_2 : w75.cell? ⟨gb124, 2, none⟩ = some (.int .i64 a0_2) := (blk_cell BK124.out 2).trans rfl; have hcz76_3 : w75.cell? ⟨gb124, 3, none⟩ = some (.int .i64 a0_3) := (blk_cell BK124.out 3).trans rfl; have hcz76_4 : w75.cell? ⟨gb124, 4, none⟩ = some (.int .i64 a0_4) := (blk_cell BK124.out 4).trans rfl; have hcz76_5 : w75.cell? ⟨gb124, 5, none⟩ = some (.int .i64 a0_5) := (blk_cell BK124.out 5).trans rfl; have hcz76_6 : w75.cell? ⟨gb124, 6, none⟩ = some (.string a0_6) := (blk_cell BK124.out 6).trans rfl; have hcz76_7 : w75.cell? ⟨gb124, 7, none⟩ = some (.slice A0_7 l0_7.length c0_7) := (blk_cell BK124.out 7).trans rfl; have hfz76_0 := blk_frozen BK124.out 0; have hfz76_1 := blk_frozen BK124.out 1; have hfz76_2 := blk_frozen BK124.out 2; have hfz76_3 := blk_frozen BK124.out 3; have hfz76_4 := blk_frozen BK124.out 4; have hfz76_5 := blk_frozen BK124.out 5; have hfz76_6 := blk_frozen BK124.out 6; have hfz76_7 := blk_frozen BK124.out 7) | (go_at_call 29; (with_reducible refine (glossaryref07_kids.calls kj61 a0_0 a0_1 a0_2 a0_3 a0_4 a0_5 a0_6 _ _ l0_7 t131 _ ?side1 ?side2 A71.out).mono ?_); (case side1 => repeat (first | exact (Kd.C_below HR0_7.out HB.out) | (with_reducible refine Kd.C_alloc ?_ _) | (with_reducible refine Kd.C_drewN ?_ _) | (with_reducible refine Kd.C_drew ?_))); (case side2 => exact HC0_7.out); rintro e w77 ⟨rfl, hb⟩; have n0_ := Aside0.mk (blk_below (g := gb124) (o := .cells #[.int .i64 a0_0, .string a0_1, .int .i64 a0_2, .int .i64 a0_3, .int .i64 a0_4, .int .i64 a0_5, .string a0_6, .slice A0_7 l0_7.length c0_7] 24 (0, 0)) (by (with_reducible repeat (first | refine blk_drewN ?_ _ | refine blk_drew ?_ | refine blk_alloc ?_ _)); exact BK124.out) hb); have n1_ := Aside0.mk (below_step (by repeat (first | (with_reducible first | exact HB.out | apply below_alloc | apply pw_below_drewN | apply below_drew1 | refine below_set ?_ GE124.out) | exact HB.out)) hb); clear BK124; clear HB; have BK124 := n0_; have HB := n1_; clear n0_ n1_; (try clear hb); (try clear hb2); (try clear hk); (try clear hi)))
                 go_ret
                 exact ⟨by first | rfl | (simp [errW_none, errW_some] <;> rfl) | (simp [*, errW_none, errW_some] <;> rfl), by repeat (first | (with_reducible first | exact HB.out | apply below_alloc | apply pw_below_drewN | apply below_drew1 | refine below_set ?_ GE124.out) | exact HB.out)⟩
                ·replace c70 := Bool.eq_false_iff.mpr c70
                 subst c70
                 rw [if_neg (show ¬ (false = true) by decide)] at H
                 obtain rfl := Option.some.inj H
                 obtain ⟨hcz78_0, hfz78_0, hcz78_1, hfz78_1, hcz78_2, hfz78_2, hcz78_3, hfz78_3, hcz78_4, hfz78_4, hcz78_5, hfz78_5, hcz78_6, hfz78_6, hcz78_7, hfz78_7⟩ := cells8 BK124.out
                 go_wp2_with (first | (go_at_call 27; (with_reducible refine (glossaryref07_text.calls kj61 a0_0 a0_1 a0_2 a0_3 a0_4 a0_5 a0_6 _ _ l0_7 true _ ?side1 ?side2 A67.out).mono ?_); (case side1 => repeat (first | exact (Kd.C_below HR0_7.out HB.out) | (with_reducible refine Kd.C_alloc ?_ _) | (with_reducible refine Kd.C_drewN ?_ _) | (with_reducible refine Kd.C_drew ?_))); (case side2 => exact HC0_7.out); rintro e w79 ⟨rfl, hb⟩; have n0_ := Aside0.mk (blk_below (g := gb124) (o := .cells #[.int .i64 a0_0, .string a0_1, .int .i64 a0_2, .int .i64 a0_3, .int .i64 a0_4, .int .i64 a0_5, .string a0_6, .slice A0_7 l0_7.length c0_7] 24 (0, 0)) (by (with_reducible repeat (first | refine blk_drewN ?_ _ | refine blk_drew ?_ | refine blk_alloc ?_ _)); exact BK124.out) hb); have n1_ := Aside0.mk (below_step (by repeat (first | (with_reducible first | exact HB.out | apply below_alloc | apply pw_below_drewN | apply below_drew1 | refine below_set ?_ GE124.out) | exact HB.out)) hb); clear BK124; clear HB; have BK124 := n0_; have HB := n1_; clear n0_ n1_; (try clear hb); (try clear hb2); (try clear hk); (try clear hi); have hcz80_0 : w79.cell? ⟨gb124, 0, none⟩ = some (.int .i64 a0_0) := (blk_cell BK124.out 0).trans rfl; have hcz80_1 : w79.cell? ⟨gb124, 1, none⟩ = some (.string a0_1) := (blk_cell BK124.out 1).trans rfl; have hcz80_2 : w79.cell? ⟨gb124, 2, none⟩ = some (.int .i64 a0_2) := (blk_cell BK124.out 2).trans rfl; have hcz80_3 : w79.cell? ⟨gb124, 3, none⟩ = some (.int .i64 a0_3) := (blk_cell BK124.out 3).trans rfl; have hcz80_4 : w79.cell? ⟨gb124, 4, none⟩ = some (.int .i64 a0_4) := (blk_cell BK124.out 4).trans rfl; have hcz80_5 : w79.cell? ⟨gb124, 5, none⟩ = some (.int .i64 a0_5) := (blk_cell BK124.out 5).trans rfl; have hcz80_6 : w79.cell? ⟨gb124, 6, none⟩ = some (.string a0_6) := (blk_cell BK124.out 6).trans rfl; have hcz80_7 : w79.cell? ⟨gb124, 7, none⟩ = some (.slice A0_7 l0_7.length c0_7) := (blk_cell BK124.out 7).trans rfl; have hfz80_0 := blk_frozen BK124.out 0; have hfz80_1 := blk_frozen BK124.out 1; have hfz80_2 := blk_frozen BK124.out 2; have hfz80_3 := blk_frozen BK124.out 3; have hfz80_4 := blk_frozen BK124.out 4; have hfz80_5 := blk_frozen BK124.out 5; have hfz80_6 := blk_frozen BK124.out 6; have hfz80_7 := blk_frozen BK124.out 7) | (go_at_call 28; (with_reducible refine (glossaryref07_number.calls kj61 a0_0 a0_1 a0_2 a0_3 a0_4 a0_5 a0_6 _ _ l0_7 false _ ?side1 ?side2 A69.out).mono ?_); (case side1 => repeat (first | exact (Kd.C_below HR0_7.out HB.out) | (with_reducible refine Kd.C_alloc ?_ _) | (with_reducible refine Kd.C_drewN ?_ _) | (with_reducible refine Kd.C_drew ?_))); (case side2 => exact HC0_7.out); rintro e w81 ⟨rfl, hb⟩; have n0_ := Aside0.mk (blk_below (g := gb124) (o := .cells #[.int .i64 a0_0, .string a0_1, .int .i64 a0_2, .int .i64 a0_3, .int .i64 a0_4, .int .i64 a0_5, .string a0_6, .slice A0_7 l0_7.length c0_7] 24 (0, 0)) (by (with_reducible repeat (first | refine blk_drewN ?_ _ | refine blk_drew ?_ | refine blk_alloc ?_ _)); exact BK124.out) hb); have n1_ := Aside0.mk (below_step (by repeat (first | (with_reducible first | exact HB.out | apply below_alloc | apply pw_below_drewN | apply below_drew1 | refine below_set ?_ GE124.out) | exact HB.out)) hb); clear BK124; clear HB; have BK124 := n0_; have HB := n1_; clear n0_ n1_; (try clear hb); (try clear hb2); (try clear hk); (try clear hi)))
                 go_ret
                 exact ⟨by first | rfl | (simp [errW_none, errW_some] <;> rfl) | (simp [*, errW_none, errW_some] <;> rfl), by repeat (first | (with_reducible first | exact HB.out | apply below_alloc | apply pw_below_drewN | apply below_drew1 | refine below_set ?_ GE124.out) | exact HB.out)⟩
               ·replace c68 := Bool.eq_false_iff.mpr c68
                subst c68
                rw [if_neg (show ¬ (false = true) by decide)] at H
                obtain rfl := Option.some.inj H
                obtain ⟨hcz82_0, hfz82_0, hcz82_1, hfz82_1, hcz82_2, hfz82_2, hcz82_3, hfz82_3, hcz82_4, hfz82_4, hcz82_5, hfz82_5, hcz82_6, hfz82_6, hcz82_7, hfz82_7⟩ := cells8 BK124.out
                go_wp2_with (first | (go_at_call 27; (with_reducible refine (glossaryref07_text.calls kj61 a0_0 a0_1 a0_2 a0_3 a0_4 a0_5 a0_6 _ _ l0_7 false _ ?side1 ?side2 A67.out).mono ?_); (case side1 => repeat (first | exact (Kd.C_below HR0_7.out HB.out) | (with_reducible refine Kd.C_alloc ?_ _) | (with_reducible refine Kd.C_drewN ?_ _) | (with_reducible refine Kd.C_drew ?_))); (case side2 => exact HC0_7.out); rintro e w83 ⟨rfl, hb⟩; have n0_ := Aside0.mk (blk_below (g := gb124) (o := .cells #[.int .i64 a0_0, .string a0_1, .int .i64 a0_2, .int .i64 a0_3, .int .i64 a0_4, .int .i64 a0_5, .string a0_6, .slice A0_7 l0_7.length c0_7] 24 (0, 0)) (by (with_reducible repeat (first | refine blk_drewN ?_ _ | refine blk_drew ?_ | refine blk_alloc ?_ _)); exact BK124.out) hb); have n1_ := Aside0.mk (below_step (by repeat (first | (with_reducible first | exact HB.out | apply below_alloc | apply pw_below_drewN | apply below_drew1 | refine below_set ?_ GE124.out) | exact HB.out)) hb); clear BK124; clear HB; have BK124 := n0_; have HB := n1_; clear n0_ n1_; (try clear hb); (try clear hb2); (try clear hk); (try clear hi)))
                go_ret
                exact ⟨by first | rfl | (simp [errW_none, errW_some] <;> rfl) | (simp [*, errW_none, errW_some] <;> rfl), by repeat (first | (with_reducible first | exact HB.out | apply below_alloc | apply pw_below_drewN | apply below_drew1 | refine below_set ?_ GE124.out) | exact HB.out)⟩
              ·rw [if_neg c66] at H
               have c66b0 : decide (a0_4 ≤ 3) = false := decide_eq_false c66
               clear c66
               obtain rfl := Option.some.inj H
               obtain ⟨hcz84_0, hfz84_0, hcz84_1, hfz84_1, hcz84_2, hfz84_2, hcz84_3, hfz84_3, hcz84_4, hfz84_4, hcz84_5, hfz84_5, hcz84_6, hfz84_6, hcz84_7, hfz84_7⟩ := cells8 BK124.out
               go_wp2
               go_ret
               exact ⟨by first | rfl | (simp [errW_none, errW_some] <;> rfl) | (simp [*, errW_none, errW_some] <;> rfl), by repeat (first | (with_reducible first | exact HB.out | apply below_alloc | apply pw_below_drewN | apply below_drew1 | refine below_set ?_ GE124.out) | exact HB.out)⟩
             ·rw [if_neg c65] at H
              have c65b0 : decide (0 ≤ a0_4) = false := decide_eq_false c65
              clear c65
              obtain rfl := Option.some.inj H
              obtain ⟨hcz85_0, hfz85_0, hcz85_1, hfz85_1, hcz85_2, hfz85_2, hcz85_3, hfz85_3, hcz85_4, hfz85_4, hcz85_5, hfz85_5, hcz85_6, hfz85_6, hcz85_7, hfz85_7⟩ := cells8 BK124.out
              go_wp2
              go_ret
              exact ⟨by first | rfl | (simp [errW_none, errW_some] <;> rfl) | (simp [*, errW_none, errW_some] <;> rfl), by repeat (first | (with_reducible first | exact HB.out | apply below_alloc | apply pw_below_drewN | apply below_drew1 | refine below_set ?_ GE124.out) | exact HB.out)⟩
            ·replace c64 := Bool.eq_false_iff.mpr c64
             subst c64
             rw [if_neg (show ¬ (false = true) by decide)] at H
             by_cases c86 : a0_4 ≥ 0
             ·rw [if_pos c86] at H
              have c86b0 : decide (0 ≤ a0_4) = true := decide_eq_true c86
              clear c86
              by_cases c87 : a0_4 ≤ 0
              ·rw [if_pos c87] at H
               have c87b0 : decide (a0_4 ≤ 0) = true := decide_eq_true c87
               clear c87
               replace H := Option.bind_eq_some_iff.mp H
               obtain ⟨t132, A880, H⟩ := H
               try dsimp only at H
               have A88 := Aside0.mk A880
               clear A880
               by_cases c89 : t132 = true
               ·subst c89
                rw [if_pos rfl] at H
                replace H := Option.bind_eq_some_iff.mp H
                obtain ⟨t133, A900, H⟩ := H
                try dsimp only at H
                have A90 := Aside0.mk A900
                clear A900
                by_cases c91 : t133 = true
                ·subst c91
                 rw [if_pos rfl] at H
                 replace H := Option.bind_eq_some_iff.mp H
                 obtain ⟨t134, A920, H⟩ := H
                 try dsimp only at H
                 have A92 := Aside0.mk A920
                 clear A920
                 obtain rfl := Option.some.inj H
                 obtain ⟨hcz93_0, hfz93_0, hcz93_1, hfz93_1, hcz93_2, hfz93_2, hcz93_3, hfz93_3, hcz93_4, hfz93_4, hcz93_5, hfz93_5, hcz93_6, hfz93_6, hcz93_7, hfz93_7⟩ := cells8 BK124.out
                 go_wp2_with (first | (go_at_call 27; (with_reducible refine (glossaryref07_text.calls kj61 a0_0 a0_1 a0_2 a0_3 a0_4 a0_5 a0_6 _ _ l0_7 true _ ?side1 ?side2 A88.out).mono ?_); (case side1 => repeat (first | exact (Kd.C_below HR0_7.out HB.out) | (with_reducible refine Kd.C_alloc ?_ _) | (with_reducible refine Kd.C_drewN ?_ _) | (with_reducible refine Kd.C_drew ?_))); (case side2 => exact HC0_7.out); rintro e w94 ⟨rfl, hb⟩; have n0_ := Aside0.mk (blk_below (g := gb124) (o := .cells #[.int .i64 a0_0, .string a0_1, .int .i64 a0_2, .int .i64 a0_3, .int .i64 a0_4, .int .i64 a0_5, .string a0_6, .slice A0_7 l0_7.length c0_7] 24 (0, 0)) (by (with_reducible repeat (first | refine blk_drewN ?_ _ | refine blk_drew ?_ | refine blk_alloc ?_ _)); exact BK124.out) hb); have n1_ := Aside0.mk (below_step (by repeat (first | (with_reducible first | exact HB.out | apply below_alloc | apply pw_below_drewN | apply below_drew1 | refine below_set ?_ GE124.out) | exact HB.out)) hb); clear BK124; clear HB; have BK124 := n0_; have HB := n1_; clear n0_ n1_; (try clear hb); (try clear hb2); (try clear hk); (try clear hi); have hcz95_0 : w94.cell? ⟨gb124, 0, none⟩ = some (.int .i64 a0_0) := (blk_cell BK124.out 0).trans rfl; have hcz95_1 : w94.cell? ⟨gb124, 1, none⟩ = some (.string a0_1) := (blk_cell BK124.out 1).trans rfl; have hcz95_2 : w94.cell? ⟨gb124, 2, none⟩ = some (.int .i64 a0_2) := (blk_cell BK124.out 2).trans rfl; have hcz95_3 : w94.cell? ⟨gb124, 3, none⟩ = some (.int .i64 a0_3) := (blk_cell BK124.out 3).trans rfl; have hcz95_4 : w94.cell? ⟨gb124, 4, none⟩ = some (.int .i64 a0_4) := (blk_cell BK124.out 4).trans rfl; have hcz95_5 : w94.cell? ⟨gb124, 5, none⟩ = some (.int .i64 a0_5) := (blk_cell BK124.out 5).trans rfl; have hcz95_6 : w94.cell? ⟨gb124, 6, none⟩ = some (.string a0_6) := (blk_cell BK124.out 6).trans rfl; have hcz95_7 : w94.cell? ⟨gb124, 7, none⟩ = some (.slice A0_7 l0_7.length c0_7) := (blk_cell BK124.out 7).trans rfl; have hfz95_0 := blk_frozen BK124.out 0; have hfz95_1 := blk_frozen BK124.out 1; have hfz95_2 := blk_frozen BK124.out 2; have hfz95_3 := blk_frozen BK124.out 3; have hfz95_4 := blk_frozen BK124.out 4; have hfz95_5 := blk_frozen BK124.out 5; have hfz95_6 := blk_frozen BK124.out 6; have hfz95_7 := blk_frozen BK124.out 7) | (go_at_call 28; (with_reducible refine (glossaryref07_number.calls kj61 a0_0 a0_1 a0_2 a0_3 a0_4 a0_5 a0_6 _ _ l0_7 true _ ?side1 ?side2 A90.out).mono ?_); (case side1 => repeat (first | exact (Kd.C_below HR0_7.out HB.out) | (with_reducible refine Kd.C_alloc ?_ _) | (with_reducible refine Kd.C_drewN ?_ _) | (with_reducible refine Kd.C_drew ?_))); (case side2 => exact HC0_7.out); rintro e w96 ⟨rfl, hb⟩; have n0_ := Aside0.mk (blk_below (g := gb124) (o := .cells #[.int .i64 a0_0, .string a0_1, .int .i64 a0_2, .int .i64 a0_3, .int .i64 a0_4, .int .i64 a0_5, .string a0_6, .slice A0_7 l0_7.length c0_7] 24 (0, 0)) (by (with_reducible repeat (first | refine blk_drewN ?_ _ | refine blk_drew ?_ | refine blk_alloc ?_ _)); exact BK124.out) hb); have n1_ := Aside0.mk (below_step (by repeat (first | (with_reducible first | exact HB.out | apply below_alloc | apply pw_below_drewN | apply below_drew1 | refine below_set ?_ GE124.out) | exact HB.out)) hb); clear BK124; clear HB; have BK124 := n0_; have HB := n1_; clear n0_ n1_; (try clear hb); (try clear hb2); (try clear hk); (try clear hi); have hcz97_0 : w96.cell? ⟨gb124, 0, none⟩ = some (.int .i64 a0_0) := (blk_cell BK124.out 0).trans rfl; have hcz97_1 : w96.cell? ⟨gb124, 1, none⟩ = some (.string a0_1) := (blk_cell BK124.out 1).trans rfl; have hcz97_2 : w96.cell? ⟨gb124, 2, none⟩ = some (.int .i64 a0_2) := (blk_cell BK124.out 2).trans rfl; have hcz97_3 : w96.cell? ⟨gb124, 3, none⟩ = some (.int .i64 a0_3) := (blk_cell BK124.out 3).trans rfl; have hcz97_4 : w96.cell? ⟨gb124, 4, none⟩ = some (.int .i64 a0_4) := (blk_cell BK124.out 4).trans rfl; have hcz97_5 : w96.cell? ⟨gb124, 5, none⟩ = some (.int .i64 a0_5) := (blk_cell BK124.out 5).trans rfl; have hcz97_6 : w96.cell? ⟨gb124, 6, none⟩ = some (.string a0_6) := (blk_cell BK124.out 6).trans rfl; have hcz97_7 : w96.cell? ⟨gb124, 7, none⟩ = some (.slice A0_7 l0_7.length c0_7) := (blk_cell BK124.out 7).trans rfl; have hfz97_0 := blk_frozen BK124.out 0; have hfz97_1 := blk_frozen BK124.out 1; have hfz97_2 := blk_frozen BK124.out 2; have hfz97_3 := blk_frozen BK124.out 3; have hfz97_4 := blk_frozen BK124.out 4; have hfz97_5 := blk_frozen BK124.out 5; have hfz97_6 := blk_frozen BK124.out 6; have hfz97_7 := blk_frozen BK124.out 7) | (go_at_call 29; (with_reducible refine (glossaryref07_kids.calls kj61 a0_0 a0_1 a0_2 a0_3 a0_4 a0_5 a0_6 _ _ l0_7 t134 _ ?side1 ?side2 A92.out).mono ?_); (case side1 => repeat (first | exact (Kd.C_below HR0_7.out HB.out) | (with_reducible refine Kd.C_alloc ?_ _) | (with_reducible refine Kd.C_drewN ?_ _) | (with_reducible refine Kd.C_drew ?_))); (case side2 => exact HC0_7.out); rintro e w98 ⟨rfl, hb⟩; have n0_ := Aside0.mk (blk_below (g := gb124) (o := .cells #[.int .i64 a0_0, .string a0_1, .int .i64 a0_2, .int .i64 a0_3, .int .i64 a0_4, .int .i64 a0_5, .string a0_6, .slice A0_7 l0_7.length c0_7] 24 (0, 0)) (by (with_reducible repeat (first | refine blk_drewN ?_ _ | refine blk_drew ?_ | refine blk_alloc ?_ _)); exact BK124.out) hb); have n1_ := Aside0.mk (below_step (by repeat (first | (with_reducible first | exact HB.out | apply below_alloc | apply pw_below_drewN | apply below_drew1 | refine below_set ?_ GE124.out) | exact HB.out)) hb); clear BK124; clear HB; have BK124 := n0_; have HB := n1_; clear n0_ n1_; (try clear hb); (try clear hb2); (try clear hk); (try clear hi)))
                 go_ret
                 exact ⟨by first | rfl | (simp [errW_none, errW_some] <;> rfl) | (simp [*, errW_none, errW_some] <;> rfl), by repeat (first | (with_reducible first | exact HB.out | apply below_alloc | apply pw_below_drewN | apply below_drew1 | refine below_set ?_ GE124.out) | exact HB.out)⟩
                ·replace c91 := Bool.eq_false_iff.mpr c91
                 subst c91
                 rw [if_neg (show ¬ (false = true) by decide)] at H
                 obtain rfl := Option.some.inj H
                 obtain ⟨hcz99_0, hfz99_0, hcz99_1, hfz99_1, hcz99_2, hfz99_2, hcz99_3, hfz99_3, hcz99_4, hfz99_4, hcz99_5, hfz99_5, hcz99_6, hfz99_6, hcz99_7, hfz99_7⟩ := cells8 BK124.out
                 go_wp2_with (first | (go_at_call 27; (with_reducible refine (glossaryref07_text.calls kj61 a0_0 a0_1 a0_2 a0_3 a0_4 a0_5 a0_6 _ _ l0_7 true _ ?side1 ?side2 A88.out).mono ?_); (case side1 => repeat (first | exact (Kd.C_below HR0_7.out HB.out) | (with_reducible refine Kd.C_alloc ?_ _) | (with_reducible refine Kd.C_drewN ?_ _) | (with_reducible refine Kd.C_drew ?_))); (case side2 => exact HC0_7.out); rintro e w100 ⟨rfl, hb⟩; have n0_ := Aside0.mk (blk_below (g := gb124) (o := .cells #[.int .i64 a0_0, .string a0_1, .int .i64 a0_2, .int .i64 a0_3, .int .i64 a0_4, .int .i64 a0_5, .string a0_6, .slice A0_7 l0_7.length c0_7] 24 (0, 0)) (by (with_reducible repeat (first | refine blk_drewN ?_ _ | refine blk_drew ?_ | refine blk_alloc ?_ _)); exact BK124.out) hb); have n1_ := Aside0.mk (below_step (by repeat (first | (with_reducible first | exact HB.out | apply below_alloc | apply pw_below_drewN | apply below_drew1 | refine below_set ?_ GE124.out) | exact HB.out)) hb); clear BK124; clear HB; have BK124 := n0_; have HB := n1_; clear n0_ n1_; (try clear hb); (try clear hb2); (try clear hk); (try clear hi); have hcz101_0 : w100.cell? ⟨gb124, 0, none⟩ = some (.int .i64 a0_0) := (blk_cell BK124.out 0).trans rfl; have hcz101_1 : w100.cell? ⟨gb124, 1, none⟩ = some (.string a0_1) := (blk_cell BK124.out 1).trans rfl; have hcz101_2 : w100.cell? ⟨gb124, 2, none⟩ = some (.int .i64 a0_2) := (blk_cell BK124.out 2).trans rfl; have hcz101_3 : w100.cell? ⟨gb124, 3, none⟩ = some (.int .i64 a0_3) := (blk_cell BK124.out 3).trans rfl; have hcz101_4 : w100.cell? ⟨gb124, 4, none⟩ = some (.int .i64 a0_4) := (blk_cell BK124.out 4).trans rfl; have hcz101_5 : w100.cell? ⟨gb124, 5, none⟩ = some (.int .i64 a0_5) := (blk_cell BK124.out 5).trans rfl; have hcz101_6 : w100.cell? ⟨gb124, 6, none⟩ = some (.string a0_6) := (blk_cell BK124.out 6).trans rfl; have hcz101_7 : w100.cell? ⟨gb124, 7, none⟩ = some (.slice A0_7 l0_7.length c0_7) := (blk_cell BK124.out 7).trans rfl; have hfz101_0 := blk_frozen BK124.out 0; have hfz101_1 := blk_frozen BK124.out 1; have hfz101_2 := blk_frozen BK124.out 2; have hfz101_3 := blk_frozen BK124.out 3; have hfz101_4 := blk_frozen BK124.out 4; have hfz101_5 := blk_frozen BK124.out 5; have hfz101_6 := blk_frozen BK124.out 6; have hfz101_7 := blk_frozen BK124.out 7) | (go_at_call 28; (with_reducible refine (glossaryref07_number.calls kj61 a0_0 a0_1 a0_2 a0_3 a0_4 a0_5 a0_6 _ _ l0_7 false _ ?side1 ?side2 A90.out).mono ?_); (case side1 => repeat (first | exact (Kd.C_below HR0_7.out HB.out) | (with_reducible refine Kd.C_alloc ?_ _) | (with_reducible refine Kd.C_drewN ?_ _) | (with_reducible refine Kd.C_drew ?_))); (case side2 => exact HC0_7.out); rintro e w102 ⟨rfl, hb⟩; have n0_ := Aside0.mk (blk_below (g := gb124) (o := .cells #[.int .i64 a0_0, .string a0_1, .int .i64 a0_2, .int .i64 a0_3, .int .i64 a0_4, .int .i64 a0_5, .string a0_6, .slice A0_7 l0_7.length c0_7] 24 (0, 0)) (by (with_reducible repeat (first | refine blk_drewN ?_ _ | refine blk_drew ?_ | refine blk_alloc ?_ _)); exact BK124.out) hb); have n1_ := Aside0.mk (below_step (by repeat (first | (with_reducible first | exact HB.out | apply below_alloc | apply pw_below_drewN | apply below_drew1 | refine below_set ?_ GE124.out) | exact HB.out)) hb); clear BK124; clear HB; have BK124 := n0_; have HB := n1_; clear n0_ n1_; (try clear hb); (try clear hb2); (try clear hk); (try clear hi)))
                 go_ret
                 exact ⟨by first | rfl | (simp [errW_none, errW_some] <;> rfl) | (simp [*, errW_none, errW_some] <;> rfl), by repeat (first | (with_reducible first | exact HB.out | apply below_alloc | apply pw_below_drewN | apply below_drew1 | refine below_set ?_ GE124.out) | exact HB.out)⟩
               ·replace c89 := Bool.eq_false_iff.mpr c89
                subst c89
                rw [if_neg (show ¬ (false = true) by decide)] at H
                obtain rfl := Option.some.inj H
                obtain ⟨hcz103_0, hfz103_0, hcz103_1, hfz103_1, hcz103_2, hfz103_2, hcz103_3, hfz103_3, hcz103_4, hfz103_4, hcz103_5, hfz103_5, hcz103_6, hfz103_6, hcz103_7, hfz103_7⟩ := cells8 BK124.out
                go_wp2_with (first | (go_at_call 27; (with_reducible refine (glossaryref07_text.calls kj61 a0_0 a0_1 a0_2 a0_3 a0_4 a0_5 a0_6 _ _ l0_7 false _ ?side1 ?side2 A88.out).mono ?_); (case side1 => repeat (first | exact (Kd.C_below HR0_7.out HB.out) | (with_reducible refine Kd.C_alloc ?_ _) | (with_reducible refine Kd.C_drewN ?_ _) | (with_reducible refine Kd.C_drew ?_))); (case side2 => exact HC0_7.out); rintro e w104 ⟨rfl, hb⟩; have n0_ := Aside0.mk (blk_below (g := gb124) (o := .cells #[.int .i64 a0_0, .string a0_1, .int .i64 a0_2, .int .i64 a0_3, .int .i64 a0_4, .int .i64 a0_5, .string a0_6, .slice A0_7 l0_7.length c0_7] 24 (0, 0)) (by (with_reducible repeat (first | refine blk_drewN ?_ _ | refine blk_drew ?_ | refine blk_alloc ?_ _)); exact BK124.out) hb); have n1_ := Aside0.mk (below_step (by repeat (first | (with_reducible first | exact HB.out | apply below_alloc | apply pw_below_drewN | apply below_drew1 | refine below_set ?_ GE124.out) | exact HB.out)) hb); clear BK124; clear HB; have BK124 := n0_; have HB := n1_; clear n0_ n1_; (try clear hb); (try clear hb2); (try clear hk); (try clear hi)))
                go_ret
                exact ⟨by first | rfl | (simp [errW_none, errW_some] <;> rfl) | (simp [*, errW_none, errW_some] <;> rfl), by repeat (first | (with_reducible first | exact HB.out | apply below_alloc | apply pw_below_drewN | apply below_drew1 | refine below_set ?_ GE124.out) | exact HB.out)⟩
              ·rw [if_neg c87] at H
               have c87b0 : decide (a0_4 ≤ 0) = false := decide_eq_false c87
               clear c87
               obtain rfl := Option.some.inj H
               obtain ⟨hcz105_0, hfz105_0, hcz105_1, hfz105_1, hcz105_2, hfz105_2, hcz105_3, hfz105_3, hcz105_4, hfz105_4, hcz105_5, hfz105_5, hcz105_6, hfz105_6, hcz105_7, hfz105_7⟩ := cells8 BK124.out
               go_wp2
               go_ret
               exact ⟨by first | rfl | (simp [errW_none, errW_some] <;> rfl) | (simp [*, errW_none, errW_some] <;> rfl), by repeat (first | (with_reducible first | exact HB.out | apply below_alloc | apply pw_below_drewN | apply below_drew1 | refine below_set ?_ GE124.out) | exact HB.out)⟩
             ·rw [if_neg c86] at H
              have c86b0 : decide (0 ≤ a0_4) = false := decide_eq_false c86
              clear c86
              obtain rfl := Option.some.inj H
              obtain ⟨hcz106_0, hfz106_0, hcz106_1, hfz106_1, hcz106_2, hfz106_2, hcz106_3, hfz106_3, hcz106_4, hfz106_4, hcz106_5, hfz106_5, hcz106_6, hfz106_6, hcz106_7, hfz106_7⟩ := cells8 BK124.out
              go_wp2
              go_ret
              exact ⟨by first | rfl | (simp [errW_none, errW_some] <;> rfl) | (simp [*, errW_none, errW_some] <;> rfl), by repeat (first | (with_reducible first | exact HB.out | apply below_alloc | apply pw_below_drewN | apply below_drew1 | refine below_set ?_ GE124.out) | exact HB.out)⟩
end Go.Proofs.YtdkepckkihclgaaGreatDoor.PNodeChecks

import Derived.Test.YtdkepckkihclgaaGreatDoorM8
namespace Go.Proofs.YtdkepckkihclgaaGreatDoor.PNodeChecks
open Go.RowKit Go.Proofs.YtdkepckkihclgaaGreatDoorW.PrintWords Go.Proofs.YtdkepckkihclgaaGreatDoorW.PrintLast Go.Proofs.YtdkepckkihclgaaGreatDoorW.PrintMore
set_option linter.unusedVariables false
set_option linter.unusedSimpArgs false
def kaL : Nat → Int → List S24 → Int → Int → Option Bool
 | 0, _, _, _, _ => none
 | k + 1, kd, l, i, n => if i < (l.length : Int) then (if 0 ≤ i then ((glossaryref07_may.f kd (rd_T24 l i).f0).bind fun b => if b = false then some false else if kd = 11 ∧ (rd_T24 l i).f0 = 9 ∧ (rd_T24 l i).f4 ≠ 0 then some false else kaL k kd l (wrap64 (i + 1)) (if (rd_T24 l i).f0 = 3 then wrap64 (n + 1) else n)) else none) else some (decide (n ≤ 1) && (!(decide (kd = 12)) || decide (0 < l.length)))
set_option maxHeartbeats 16000000 in
set_option maxRecDepth 100000 in
theorem rkids_1 (k : Nat) (x : S24) (A : Option Addr) (c : Nat) (r : Bool) (w : World) (hC : Kd.C k24 w A x.f7.length x.f7) (hc : x.f7.length ≤ c) (h : kaL k 1 x.f7 0 0 = some r) :
  Calls Tryz.prog 29 #[.agg #[.int .i64 1, .string x.f1, .int .i64 x.f2, .int .i64 x.f3, .int .i64 x.f4, .int .i64 x.f5, .string x.f6, .slice A x.f7.length c]] w fun e w' => e = .returned (.bool r) ∧ Below w.heap.size w w' := by
 have HC := Aside0.mk hC
 have Hc := Aside0.mk hc
 have H := Aside0.mk h
 clear hC hc h
 go_enter Tryz.func29, Tryz.ntmps29
 go_wp2_with (first | ((with_reducible refine gate_dst (N := 1) rfl ?_); refine box_event ?hg (N := 1) ?hd (cs := #[.int .i64 1, .string x.f1, .int .i64 x.f2, .int .i64 x.f3, .int .i64 x.f4, .int .i64 x.f5, .string x.f6, .slice A x.f7.length c]) (t := 24) ?hr ?_; (case hd => rfl); (case hg => rfl); (case hr => first | (go_simp; done) | (go_simp; rfl)); intro gx hg w1 hbox hb; have HB1 := Aside0.mk hb; have HX1 := Aside0.mk hbox; obtain ⟨hq0, hqf0, hq1, hqf1, hq2, hqf2, hq3, hqf3, hq4, hqf4, hq5, hqf5, hq6, hqf6, hq7, hqf7⟩ := cells8 hbox; clear hbox hb hg))
 go_loopg [30, 5] k (fun kq v30 v5 w' => ∃ (i n : Int), v30 = .int .i64 i ∧ v5 = .int .i64 n ∧ Aside0 (kaL kq 1 x.f7 i n = some r) ∧ Aside0 (kq ≤ k) ∧ Aside0 (Below w.heap.size w w') ∧ Aside0 (w'.heap[gx]? = some (.cells #[.int .i64 1, .string x.f1, .int .i64 x.f2, .int .i64 x.f3, .int .i64 x.f4, .int .i64 x.f5, .string x.f6, .slice A x.f7.length c] 24 (0, 0))))
 case atStart => exact ⟨0, 0, rfl, rfl, H, ⟨Nat.le_refl _⟩, HB1, HX1⟩
 case round =>
  clear H HB1 HX1
  clear hq0 hqf0 hq1 hqf1 hq2 hqf2 hq3 hqf3 hq4 hqf4 hq5 hqf5 hq6 hqf6 hq7 hqf7
  obtain ⟨i, n, rfl, rfl, HA, HK, HBr, HXr⟩ := hrel
  obtain ⟨hq0, hqf0, hq1, hqf1, hq2, hqf2, hq3, hqf3, hq4, hqf4, hq5, hqf5, hq6, hqf6, hq7, hqf7⟩ := cells8 HXr.out
  cases gk with
  | zero => exact absurd HA.out (by simp [kaL])
  | succ k1 =>
   have H := HA.out
   clear HA
   simp only [kaL] at H
   by_cases c7 : i < (x.f7.length : Int)
   ·rw [if_pos c7] at H
    by_cases c8 : 0 ≤ i
    ·rw [if_pos c8] at H
     obtain ⟨ad, A7, c77, e, hx0, hx1, hx2, hx3, hx4, hx5, hx6, hx7, hl7, hi7⟩ := at_T24 HC.out i c8 c7
     cases e
     replace hx0 := (HBr.out.cell (World.block_lt_of_cell? w _ hx0)).trans hx0
     replace hx1 := (HBr.out.cell (World.block_lt_of_cell? w _ hx1)).trans hx1
     replace hx2 := (HBr.out.cell (World.block_lt_of_cell? w _ hx2)).trans hx2
     replace hx3 := (HBr.out.cell (World.block_lt_of_cell? w _ hx3)).trans hx3
     replace hx4 := (HBr.out.cell (World.block_lt_of_cell? w _ hx4)).trans hx4
     replace hx5 := (HBr.out.cell (World.block_lt_of_cell? w _ hx5)).trans hx5
     replace hx6 := (HBr.out.cell (World.block_lt_of_cell? w _ hx6)).trans hx6
     replace hx7 := (HBr.out.cell (World.block_lt_of_cell? w _ hx7)).trans hx7
     clear hl7 hi7
     have c7b := decide_eq_true c7
     have c8b := decide_eq_true c8
     replace c7 := eq_true c7
     replace c8 := eq_true c8
     obtain ⟨y, hy⟩ : ∃ y, rd_T24 x.f7 i = y := ⟨_, rfl⟩
     rw [hy] at H hx0 hx1 hx2 hx3 hx4 hx5 hx6 hx7
     clear hy
     obtain ⟨b, hm, H⟩ := Option.bind_eq_some_iff.mp H
     have HM := Aside0.mk hm
     clear hm
     go_upto_region 17 with (first | ((with_reducible refine gate_dst (N := 7) rfl ?_); refine box_event ?hg (N := 7) ?hd (cs := #[.int .i64 0, .string (⟨#[]⟩ : ByteArray), .int .i64 0, .int .i64 0, .int .i64 0, .int .i64 0, .string (⟨#[]⟩ : ByteArray), .slice none 0 0]) (t := 24) ?hr ?_; (case hd => rfl); (case hg => rfl); (case hr => first | (go_simp; done) | (go_simp; rfl)); intro g2 hg w3 hbox hb; have HB3 := Aside0.mk (below_step HBr.out hb); have HX3 := Aside0.mk (blk_below HXr.out hb); have hgW2 := Aside0.mk (show w.heap.size ≤ g2 by rw [hg]; exact HBr.out.size); have hne : gx ≠ g2 := (fun e => by subst e; exact absurd (blk_lt HXr.out) (by omega)); have HK3 := Aside0.mk hbox; have hp0 := pw_cell_below hb hq0; have hp1 := pw_cell_below hb hq1; have hp2 := pw_cell_below hb hq2; have hp3 := pw_cell_below hb hq3; have hp4 := pw_cell_below hb hq4; have hp5 := pw_cell_below hb hq5; have hp6 := pw_cell_below hb hq6; have hp7 := pw_cell_below hb hq7; obtain ⟨hz0, hzf0, hz1, hzf1, hz2, hzf2, hz3, hzf3, hz4, hzf4, hz5, hzf5, hz6, hzf6, hz7, hzf7⟩ := cells8 hbox; clear hbox hb hg))
     obtain ⟨wq, hwq, q1, q2, q3⟩ := put8 w3 g2 (.int .i64 y.f0) (.string y.f1) (.int .i64 y.f2) (.int .i64 y.f3) (.int .i64 y.f4) (.int .i64 y.f5) (.string y.f6) (.slice A7 y.f7.length c77)
     rw [hwq]
     have HBq := Aside0.mk (q1 w HB3.out hgW2.out)
     have HXq := Aside0.mk (q2 gx _ _ hne HX3.out)
     have HKq := Aside0.mk (q3 _ _ _ _ _ _ _ _ _ HK3.out)
     clear hwq q1 q2 q3 HBr HXr HB3 HX3 HK3 hz0 hzf0 hp0 hq0 hqf0 hz1 hzf1 hp1 hq1 hqf1 hz2 hzf2 hp2 hq2 hqf2 hz3 hzf3 hp3 hq3 hqf3 hz4 hzf4 hp4 hq4 hqf4 hz5 hzf5 hp5 hq5 hqf5 hz6 hzf6 hp6 hq6 hqf6 hz7 hzf7 hp7 hq7 hqf7
     obtain ⟨hq0, hqf0, hq1, hqf1, hq2, hqf2, hq3, hqf3, hq4, hqf4, hq5, hqf5, hq6, hqf6, hq7, hqf7⟩ := cells8 HXq.out
     obtain ⟨hk0, hkf0, hk1, hkf1, hk2, hkf2, hk3, hkf3, hk4, hkf4, hk5, hkf5, hk6, hkf6, hk7, hkf7⟩ := cells8 HKq.out
     go_wp2_with (fail)
     refine (glossaryref07_may.calls 1 y.f0 b _ HM.out).mono ?_
     rintro e w4 ⟨rfl, hb⟩
     have hbb := drawn_below hb
     have HB4 := Aside0.mk (below_step HBq.out hbb)
     have HX4 := Aside0.mk (blk_below HXq.out hbb)
     have HK4 := Aside0.mk (blk_below HKq.out hbb)
     clear hb hbb hk0 hkf0 hq0 hqf0 hk1 hkf1 hq1 hqf1 hk2 hkf2 hq2 hqf2 hk3 hkf3 hq3 hqf3 hk4 hkf4 hq4 hqf4 hk5 hkf5 hq5 hqf5 hk6 hkf6 hq6 hqf6 hk7 hkf7 hq7 hqf7
     obtain ⟨hq0, hqf0, hq1, hqf1, hq2, hqf2, hq3, hqf3, hq4, hqf4, hq5, hqf5, hq6, hqf6, hq7, hqf7⟩ := cells8 HX4.out
     obtain ⟨hk0, hkf0, hk1, hkf1, hk2, hkf2, hk3, hkf3, hk4, hkf4, hk5, hkf5, hk6, hkf6, hk7, hkf7⟩ := cells8 HK4.out
     cases b with
     | false =>
      obtain rfl := Option.some.inj (show some false = some r from H)
      go_wp2
      go_ret
      exact ⟨rfl, HB4.out⟩
     | true =>
      rw [if_neg (by decide)] at H
      rw [if_neg (fun hq => absurd hq.1 (by decide))] at H
      by_cases h3 : y.f0 = 3
      ·rw [if_pos h3] at H
       have H := Aside0.mk H
       have h3b : (y.f0 == 3) = true := beq_iff_eq.mpr h3
       have h3d : decide (y.f0 = 3) = true := decide_eq_true h3
       clear h3
       go_wp2
       go_roundg k1
       case measure => have := HK.out; omega
       case rel => exact ⟨wrap64 (i + 1), wrap64 (n + 1), rfl, rfl, H, ⟨by have := HK.out; omega⟩, HB4, HX4⟩
      ·rw [if_neg h3] at H
       have H := Aside0.mk H
       have h3b : (y.f0 == 3) = false := beq_eq_false_iff_ne.mpr h3
       have h3d : decide (y.f0 = 3) = false := decide_eq_false h3
       clear h3
       go_wp2
       go_roundg k1
       case measure => have := HK.out; omega
       case rel => exact ⟨wrap64 (i + 1), n, rfl, rfl, H, ⟨by have := HK.out; omega⟩, HB4, HX4⟩
    ·rw [if_neg c8] at H
     exact absurd H (by simp)
   ·rw [if_neg c7] at H
    obtain rfl := Option.some.inj H
    have c7b := decide_eq_false c7
    clear c7
    cases hn : decide (n ≤ 1)
    ·go_wp2
     go_ret
     exact ⟨rfl, HBr.out⟩
    ·go_wp2
     go_ret
     exact ⟨by simp, HBr.out⟩
set_option maxHeartbeats 16000000 in
set_option maxRecDepth 100000 in
theorem rkids_5 (k : Nat) (x : S24) (A : Option Addr) (c : Nat) (r : Bool) (w : World) (hC : Kd.C k24 w A x.f7.length x.f7) (hc : x.f7.length ≤ c) (h : kaL k 5 x.f7 0 0 = some r) :
  Calls Tryz.prog 29 #[.agg #[.int .i64 5, .string x.f1, .int .i64 x.f2, .int .i64 x.f3, .int .i64 x.f4, .int .i64 x.f5, .string x.f6, .slice A x.f7.length c]] w fun e w' => e = .returned (.bool r) ∧ Below w.heap.size w w' := by
 have HC := Aside0.mk hC
 have Hc := Aside0.mk hc
 have H := Aside0.mk h
 clear hC hc h
 go_enter Tryz.func29, Tryz.ntmps29
 go_wp2_with (first | ((with_reducible refine gate_dst (N := 1) rfl ?_); refine box_event ?hg (N := 1) ?hd (cs := #[.int .i64 5, .string x.f1, .int .i64 x.f2, .int .i64 x.f3, .int .i64 x.f4, .int .i64 x.f5, .string x.f6, .slice A x.f7.length c]) (t := 24) ?hr ?_; (case hd => rfl); (case hg => rfl); (case hr => first | (go_simp; done) | (go_simp; rfl)); intro gx hg w1 hbox hb; have HB1 := Aside0.mk hb; have HX1 := Aside0.mk hbox; obtain ⟨hq0, hqf0, hq1, hqf1, hq2, hqf2, hq3, hqf3, hq4, hqf4, hq5, hqf5, hq6, hqf6, hq7, hqf7⟩ := cells8 hbox; clear hbox hb hg))
 go_loopg [30, 5] k (fun kq v30 v5 w' => ∃ (i n : Int), v30 = .int .i64 i ∧ v5 = .int .i64 n ∧ Aside0 (kaL kq 5 x.f7 i n = some r) ∧ Aside0 (kq ≤ k) ∧ Aside0 (Below w.heap.size w w') ∧ Aside0 (w'.heap[gx]? = some (.cells #[.int .i64 5, .string x.f1, .int .i64 x.f2, .int .i64 x.f3, .int .i64 x.f4, .int .i64 x.f5, .string x.f6, .slice A x.f7.length c] 24 (0, 0))))
 case atStart => exact ⟨0, 0, rfl, rfl, H, ⟨Nat.le_refl _⟩, HB1, HX1⟩
 case round =>
  clear H HB1 HX1
  clear hq0 hqf0 hq1 hqf1 hq2 hqf2 hq3 hqf3 hq4 hqf4 hq5 hqf5 hq6 hqf6 hq7 hqf7
  obtain ⟨i, n, rfl, rfl, HA, HK, HBr, HXr⟩ := hrel
  obtain ⟨hq0, hqf0, hq1, hqf1, hq2, hqf2, hq3, hqf3, hq4, hqf4, hq5, hqf5, hq6, hqf6, hq7, hqf7⟩ := cells8 HXr.out
  cases gk with
  | zero => exact absurd HA.out (by simp [kaL])
  | succ k1 =>
   have H := HA.out
   clear HA
   simp only [kaL] at H
   by_cases c7 : i < (x.f7.length : Int)
   ·rw [if_pos c7] at H
    by_cases c8 : 0 ≤ i
    ·rw [if_pos c8] at H
     obtain ⟨ad, A7, c77, e, hx0, hx1, hx2, hx3, hx4, hx5, hx6, hx7, hl7, hi7⟩ := at_T24 HC.out i c8 c7
     cases e
     replace hx0 := (HBr.out.cell (World.block_lt_of_cell? w _ hx0)).trans hx0
     replace hx1 := (HBr.out.cell (World.block_lt_of_cell? w _ hx1)).trans hx1
     replace hx2 := (HBr.out.cell (World.block_lt_of_cell? w _ hx2)).trans hx2
     replace hx3 := (HBr.out.cell (World.block_lt_of_cell? w _ hx3)).trans hx3
     replace hx4 := (HBr.out.cell (World.block_lt_of_cell? w _ hx4)).trans hx4
     replace hx5 := (HBr.out.cell (World.block_lt_of_cell? w _ hx5)).trans hx5
     replace hx6 := (HBr.out.cell (World.block_lt_of_cell? w _ hx6)).trans hx6
     replace hx7 := (HBr.out.cell (World.block_lt_of_cell? w _ hx7)).trans hx7
     clear hl7 hi7
     have c7b := decide_eq_true c7
     have c8b := decide_eq_true c8
     replace c7 := eq_true c7
     replace c8 := eq_true c8
     obtain ⟨y, hy⟩ : ∃ y, rd_T24 x.f7 i = y := ⟨_, rfl⟩
     rw [hy] at H hx0 hx1 hx2 hx3 hx4 hx5 hx6 hx7
     clear hy
     obtain ⟨b, hm, H⟩ := Option.bind_eq_some_iff.mp H
     have HM := Aside0.mk hm
     clear hm
     go_upto_region 17 with (first | ((with_reducible refine gate_dst (N := 7) rfl ?_); refine box_event ?hg (N := 7) ?hd (cs := #[.int .i64 0, .string (⟨#[]⟩ : ByteArray), .int .i64 0, .int .i64 0, .int .i64 0, .int .i64 0, .string (⟨#[]⟩ : ByteArray), .slice none 0 0]) (t := 24) ?hr ?_; (case hd => rfl); (case hg => rfl); (case hr => first | (go_simp; done) | (go_simp; rfl)); intro g2 hg w3 hbox hb; have HB3 := Aside0.mk (below_step HBr.out hb); have HX3 := Aside0.mk (blk_below HXr.out hb); have hgW2 := Aside0.mk (show w.heap.size ≤ g2 by rw [hg]; exact HBr.out.size); have hne : gx ≠ g2 := (fun e => by subst e; exact absurd (blk_lt HXr.out) (by omega)); have HK3 := Aside0.mk hbox; have hp0 := pw_cell_below hb hq0; have hp1 := pw_cell_below hb hq1; have hp2 := pw_cell_below hb hq2; have hp3 := pw_cell_below hb hq3; have hp4 := pw_cell_below hb hq4; have hp5 := pw_cell_below hb hq5; have hp6 := pw_cell_below hb hq6; have hp7 := pw_cell_below hb hq7; obtain ⟨hz0, hzf0, hz1, hzf1, hz2, hzf2, hz3, hzf3, hz4, hzf4, hz5, hzf5, hz6, hzf6, hz7, hzf7⟩ := cells8 hbox; clear hbox hb hg))
     obtain ⟨wq, hwq, q1, q2, q3⟩ := put8 w3 g2 (.int .i64 y.f0) (.string y.f1) (.int .i64 y.f2) (.int .i64 y.f3) (.int .i64 y.f4) (.int .i64 y.f5) (.string y.f6) (.slice A7 y.f7.length c77)
     rw [hwq]
     have HBq := Aside0.mk (q1 w HB3.out hgW2.out)
     have HXq := Aside0.mk (q2 gx _ _ hne HX3.out)
     have HKq := Aside0.mk (q3 _ _ _ _ _ _ _ _ _ HK3.out)
     clear hwq q1 q2 q3 HBr HXr HB3 HX3 HK3 hz0 hzf0 hp0 hq0 hqf0 hz1 hzf1 hp1 hq1 hqf1 hz2 hzf2 hp2 hq2 hqf2 hz3 hzf3 hp3 hq3 hqf3 hz4 hzf4 hp4 hq4 hqf4 hz5 hzf5 hp5 hq5 hqf5 hz6 hzf6 hp6 hq6 hqf6 hz7 hzf7 hp7 hq7 hqf7
     obtain ⟨hq0, hqf0, hq1, hqf1, hq2, hqf2, hq3, hqf3, hq4, hqf4, hq5, hqf5, hq6, hqf6, hq7, hqf7⟩ := cells8 HXq.out
     obtain ⟨hk0, hkf0, hk1, hkf1, hk2, hkf2, hk3, hkf3, hk4, hkf4, hk5, hkf5, hk6, hkf6, hk7, hkf7⟩ := cells8 HKq.out
     go_wp2_with (fail)
     refine (glossaryref07_may.calls 5 y.f0 b _ HM.out).mono ?_
     rintro e w4 ⟨rfl, hb⟩
     have hbb := drawn_below hb
     have HB4 := Aside0.mk (below_step HBq.out hbb)
     have HX4 := Aside0.mk (blk_below HXq.out hbb)
     have HK4 := Aside0.mk (blk_below HKq.out hbb)
     clear hb hbb hk0 hkf0 hq0 hqf0 hk1 hkf1 hq1 hqf1 hk2 hkf2 hq2 hqf2 hk3 hkf3 hq3 hqf3 hk4 hkf4 hq4 hqf4 hk5 hkf5 hq5 hqf5 hk6 hkf6 hq6 hqf6 hk7 hkf7 hq7 hqf7
     obtain ⟨hq0, hqf0, hq1, hqf1, hq2, hqf2, hq3, hqf3, hq4, hqf4, hq5, hqf5, hq6, hqf6, hq7, hqf7⟩ := cells8 HX4.out
     obtain ⟨hk0, hkf0, hk1, hkf1, hk2, hkf2, hk3, hkf3, hk4, hkf4, hk5, hkf5, hk6, hkf6, hk7, hkf7⟩ := cells8 HK4.out
     cases b with
     | false =>
      obtain rfl := Option.some.inj (show some false = some r from H)
      go_wp2
      go_ret
      exact ⟨rfl, HB4.out⟩
     | true =>
      rw [if_neg (by decide)] at H
      rw [if_neg (fun hq => absurd hq.1 (by decide))] at H
      by_cases h3 : y.f0 = 3
      ·rw [if_pos h3] at H
       have H := Aside0.mk H
       have h3b : (y.f0 == 3) = true := beq_iff_eq.mpr h3
       have h3d : decide (y.f0 = 3) = true := decide_eq_true h3
       clear h3
       go_wp2
       go_roundg k1
       case measure => have := HK.out; omega
       case rel => exact ⟨wrap64 (i + 1), wrap64 (n + 1), rfl, rfl, H, ⟨by have := HK.out; omega⟩, HB4, HX4⟩
      ·rw [if_neg h3] at H
       have H := Aside0.mk H
       have h3b : (y.f0 == 3) = false := beq_eq_false_iff_ne.mpr h3
       have h3d : decide (y.f0 = 3) = false := decide_eq_false h3
       clear h3
       go_wp2
       go_roundg k1
       case measure => have := HK.out; omega
       case rel => exact ⟨wrap64 (i + 1), n, rfl, rfl, H, ⟨by have := HK.out; omega⟩, HB4, HX4⟩
    ·rw [if_neg c8] at H
     exact absurd H (by simp)
   ·rw [if_neg c7] at H
    obtain rfl := Option.some.inj H
    have c7b := decide_eq_false c7
    clear c7
    cases hn : decide (n ≤ 1)
    ·go_wp2
     go_ret
     exact ⟨rfl, HBr.out⟩
    ·go_wp2
     go_ret
     exact ⟨by simp, HBr.out⟩
set_option maxHeartbeats 16000000 in
set_option maxRecDepth 100000 in
theorem rkids_6 (k : Nat) (x : S24) (A : Option Addr) (c : Nat) (r : Bool) (w : World) (hC : Kd.C k24 w A x.f7.length x.f7) (hc : x.f7.length ≤ c) (h : kaL k 6 x.f7 0 0 = some r) :
  Calls Tryz.prog 29 #[.agg #[.int .i64 6, .string x.f1, .int .i64 x.f2, .int .i64 x.f3, .int .i64 x.f4, .int .i64 x.f5, .string x.f6, .slice A x.f7.length c]] w fun e w' => e = .returned (.bool r) ∧ Below w.heap.size w w' := by
 have HC := Aside0.mk hC
 have Hc := Aside0.mk hc
 have H := Aside0.mk h
 clear hC hc h
 go_enter Tryz.func29, Tryz.ntmps29
 go_wp2_with (first | ((with_reducible refine gate_dst (N := 1) rfl ?_); refine box_event ?hg (N := 1) ?hd (cs := #[.int .i64 6, .string x.f1, .int .i64 x.f2, .int .i64 x.f3, .int .i64 x.f4, .int .i64 x.f5, .string x.f6, .slice A x.f7.length c]) (t := 24) ?hr ?_; (case hd => rfl); (case hg => rfl); (case hr => first | (go_simp; done) | (go_simp; rfl)); intro gx hg w1 hbox hb; have HB1 := Aside0.mk hb; have HX1 := Aside0.mk hbox; obtain ⟨hq0, hqf0, hq1, hqf1, hq2, hqf2, hq3, hqf3, hq4, hqf4, hq5, hqf5, hq6, hqf6, hq7, hqf7⟩ := cells8 hbox; clear hbox hb hg))
 go_loopg [30, 5] k (fun kq v30 v5 w' => ∃ (i n : Int), v30 = .int .i64 i ∧ v5 = .int .i64 n ∧ Aside0 (kaL kq 6 x.f7 i n = some r) ∧ Aside0 (kq ≤ k) ∧ Aside0 (Below w.heap.size w w') ∧ Aside0 (w'.heap[gx]? = some (.cells #[.int .i64 6, .string x.f1, .int .i64 x.f2, .int .i64 x.f3, .int .i64 x.f4, .int .i64 x.f5, .string x.f6, .slice A x.f7.length c] 24 (0, 0))))
 case atStart => exact ⟨0, 0, rfl, rfl, H, ⟨Nat.le_refl _⟩, HB1, HX1⟩
 case round =>
  clear H HB1 HX1
  clear hq0 hqf0 hq1 hqf1 hq2 hqf2 hq3 hqf3 hq4 hqf4 hq5 hqf5 hq6 hqf6 hq7 hqf7
  obtain ⟨i, n, rfl, rfl, HA, HK, HBr, HXr⟩ := hrel
  obtain ⟨hq0, hqf0, hq1, hqf1, hq2, hqf2, hq3, hqf3, hq4, hqf4, hq5, hqf5, hq6, hqf6, hq7, hqf7⟩ := cells8 HXr.out
  cases gk with
  | zero => exact absurd HA.out (by simp [kaL])
  | succ k1 =>
   have H := HA.out
   clear HA
   simp only [kaL] at H
   by_cases c7 : i < (x.f7.length : Int)
   ·rw [if_pos c7] at H
    by_cases c8 : 0 ≤ i
    ·rw [if_pos c8] at H
     obtain ⟨ad, A7, c77, e, hx0, hx1, hx2, hx3, hx4, hx5, hx6, hx7, hl7, hi7⟩ := at_T24 HC.out i c8 c7
     cases e
     replace hx0 := (HBr.out.cell (World.block_lt_of_cell? w _ hx0)).trans hx0
     replace hx1 := (HBr.out.cell (World.block_lt_of_cell? w _ hx1)).trans hx1
     replace hx2 := (HBr.out.cell (World.block_lt_of_cell? w _ hx2)).trans hx2
     replace hx3 := (HBr.out.cell (World.block_lt_of_cell? w _ hx3)).trans hx3
     replace hx4 := (HBr.out.cell (World.block_lt_of_cell? w _ hx4)).trans hx4
     replace hx5 := (HBr.out.cell (World.block_lt_of_cell? w _ hx5)).trans hx5
     replace hx6 := (HBr.out.cell (World.block_lt_of_cell? w _ hx6)).trans hx6
     replace hx7 := (HBr.out.cell (World.block_lt_of_cell? w _ hx7)).trans hx7
     clear hl7 hi7
     have c7b := decide_eq_true c7
     have c8b := decide_eq_true c8
     replace c7 := eq_true c7
     replace c8 := eq_true c8
     obtain ⟨y, hy⟩ : ∃ y, rd_T24 x.f7 i = y := ⟨_, rfl⟩
     rw [hy] at H hx0 hx1 hx2 hx3 hx4 hx5 hx6 hx7
     clear hy
     obtain ⟨b, hm, H⟩ := Option.bind_eq_some_iff.mp H
     have HM := Aside0.mk hm
     clear hm
     go_upto_region 17 with (first | ((with_reducible refine gate_dst (N := 7) rfl ?_); refine box_event ?hg (N := 7) ?hd (cs := #[.int .i64 0, .string (⟨#[]⟩ : ByteArray), .int .i64 0, .int .i64 0, .int .i64 0, .int .i64 0, .string (⟨#[]⟩ : ByteArray), .slice none 0 0]) (t := 24) ?hr ?_; (case hd => rfl); (case hg => rfl); (case hr => first | (go_simp; done) | (go_simp; rfl)); intro g2 hg w3 hbox hb; have HB3 := Aside0.mk (below_step HBr.out hb); have HX3 := Aside0.mk (blk_below HXr.out hb); have hgW2 := Aside0.mk (show w.heap.size ≤ g2 by rw [hg]; exact HBr.out.size); have hne : gx ≠ g2 := (fun e => by subst e; exact absurd (blk_lt HXr.out) (by omega)); have HK3 := Aside0.mk hbox; have hp0 := pw_cell_below hb hq0; have hp1 := pw_cell_below hb hq1; have hp2 := pw_cell_below hb hq2; have hp3 := pw_cell_below hb hq3; have hp4 := pw_cell_below hb hq4; have hp5 := pw_cell_below hb hq5; have hp6 := pw_cell_below hb hq6; have hp7 := pw_cell_below hb hq7; obtain ⟨hz0, hzf0, hz1, hzf1, hz2, hzf2, hz3, hzf3, hz4, hzf4, hz5, hzf5, hz6, hzf6, hz7, hzf7⟩ := cells8 hbox; clear hbox hb hg))
     obtain ⟨wq, hwq, q1, q2, q3⟩ := put8 w3 g2 (.int .i64 y.f0) (.string y.f1) (.int .i64 y.f2) (.int .i64 y.f3) (.int .i64 y.f4) (.int .i64 y.f5) (.string y.f6) (.slice A7 y.f7.length c77)
     rw [hwq]
     have HBq := Aside0.mk (q1 w HB3.out hgW2.out)
     have HXq := Aside0.mk (q2 gx _ _ hne HX3.out)
     have HKq := Aside0.mk (q3 _ _ _ _ _ _ _ _ _ HK3.out)
     clear hwq q1 q2 q3 HBr HXr HB3 HX3 HK3 hz0 hzf0 hp0 hq0 hqf0 hz1 hzf1 hp1 hq1 hqf1 hz2 hzf2 hp2 hq2 hqf2 hz3 hzf3 hp3 hq3 hqf3 hz4 hzf4 hp4 hq4 hqf4 hz5 hzf5 hp5 hq5 hqf5 hz6 hzf6 hp6 hq6 hqf6 hz7 hzf7 hp7 hq7 hqf7
     obtain ⟨hq0, hqf0, hq1, hqf1, hq2, hqf2, hq3, hqf3, hq4, hqf4, hq5, hqf5, hq6, hqf6, hq7, hqf7⟩ := cells8 HXq.out
     obtain ⟨hk0, hkf0, hk1, hkf1, hk2, hkf2, hk3, hkf3, hk4, hkf4, hk5, hkf5, hk6, hkf6, hk7, hkf7⟩ := cells8 HKq.out
     go_wp2_with (fail)
     refine (glossaryref07_may.calls 6 y.f0 b _ HM.out).mono ?_
     rintro e w4 ⟨rfl, hb⟩
     have hbb := drawn_below hb
     have HB4 := Aside0.mk (below_step HBq.out hbb)
     have HX4 := Aside0.mk (blk_below HXq.out hbb)
     have HK4 := Aside0.mk (blk_below HKq.out hbb)
     clear hb hbb hk0 hkf0 hq0 hqf0 hk1 hkf1 hq1 hqf1 hk2 hkf2 hq2 hqf2 hk3 hkf3 hq3 hqf3 hk4 hkf4 hq4 hqf4 hk5 hkf5 hq5 hqf5 hk6 hkf6 hq6 hqf6 hk7 hkf7 hq7 hqf7
     obtain ⟨hq0, hqf0, hq1, hqf1, hq2, hqf2, hq3, hqf3, hq4, hqf4, hq5, hqf5, hq6, hqf6, hq7, hqf7⟩ := cells8 HX4.out
     obtain ⟨hk0, hkf0, hk1, hkf1, hk2, hkf2, hk3, hkf3, hk4, hkf4, hk5, hkf5, hk6, hkf6, hk7, hkf7⟩ := cells8 HK4.out
     cases b with
     | false =>
      obtain rfl := Option.some.inj (show some false = some r from H)
      go_wp2
      go_ret
      exact ⟨rfl, HB4.out⟩
     | true =>
      rw [if_neg (by decide)] at H
      rw [if_neg (fun hq => absurd hq.1 (by decide))] at H
      by_cases h3 : y.f0 = 3
      ·rw [if_pos h3] at H
       have H := Aside0.mk H
       have h3b : (y.f0 == 3) = true := beq_iff_eq.mpr h3
       have h3d : decide (y.f0 = 3) = true := decide_eq_true h3
       clear h3
       go_wp2
       go_roundg k1
       case measure => have := HK.out; omega
       case rel => exact ⟨wrap64 (i + 1), wrap64 (n + 1), rfl, rfl, H, ⟨by have := HK.out; omega⟩, HB4, HX4⟩
      ·rw [if_neg h3] at H
       have H := Aside0.mk H
       have h3b : (y.f0 == 3) = false := beq_eq_false_iff_ne.mpr h3
       have h3d : decide (y.f0 = 3) = false := decide_eq_false h3
       clear h3
       go_wp2
       go_roundg k1
       case measure => have := HK.out; omega
       case rel => exact ⟨wrap64 (i + 1), n, rfl, rfl, H, ⟨by have := HK.out; omega⟩, HB4, HX4⟩
    ·rw [if_neg c8] at H
     exact absurd H (by simp)
   ·rw [if_neg c7] at H
    obtain rfl := Option.some.inj H
    have c7b := decide_eq_false c7
    clear c7
    cases hn : decide (n ≤ 1)
    ·go_wp2
     go_ret
     exact ⟨rfl, HBr.out⟩
    ·go_wp2
     go_ret
     exact ⟨by simp, HBr.out⟩
set_option maxHeartbeats 16000000 in
set_option maxRecDepth 100000 in
theorem rkids_7 (k : Nat) (x : S24) (A : Option Addr) (c : Nat) (r : Bool) (w : World) (hC : Kd.C k24 w A x.f7.length x.f7) (hc : x.f7.length ≤ c) (h : kaL k 7 x.f7 0 0 = some r) :
  Calls Tryz.prog 29 #[.agg #[.int .i64 7, .string x.f1, .int .i64 x.f2, .int .i64 x.f3, .int .i64 x.f4, .int .i64 x.f5, .string x.f6, .slice A x.f7.length c]] w fun e w' => e = .returned (.bool r) ∧ Below w.heap.size w w' := by
 have HC := Aside0.mk hC
 have Hc := Aside0.mk hc
 have H := Aside0.mk h
 clear hC hc h
 go_enter Tryz.func29, Tryz.ntmps29
 go_wp2_with (first | ((with_reducible refine gate_dst (N := 1) rfl ?_); refine box_event ?hg (N := 1) ?hd (cs := #[.int .i64 7, .string x.f1, .int .i64 x.f2, .int .i64 x.f3, .int .i64 x.f4, .int .i64 x.f5, .string x.f6, .slice A x.f7.length c]) (t := 24) ?hr ?_; (case hd => rfl); (case hg => rfl); (case hr => first | (go_simp; done) | (go_simp; rfl)); intro gx hg w1 hbox hb; have HB1 := Aside0.mk hb; have HX1 := Aside0.mk hbox; obtain ⟨hq0, hqf0, hq1, hqf1, hq2, hqf2, hq3, hqf3, hq4, hqf4, hq5, hqf5, hq6, hqf6, hq7, hqf7⟩ := cells8 hbox; clear hbox hb hg))
 go_loopg [30, 5] k (fun kq v30 v5 w' => ∃ (i n : Int), v30 = .int .i64 i ∧ v5 = .int .i64 n ∧ Aside0 (kaL kq 7 x.f7 i n = some r) ∧ Aside0 (kq ≤ k) ∧ Aside0 (Below w.heap.size w w') ∧ Aside0 (w'.heap[gx]? = some (.cells #[.int .i64 7, .string x.f1, .int .i64 x.f2, .int .i64 x.f3, .int .i64 x.f4, .int .i64 x.f5, .string x.f6, .slice A x.f7.length c] 24 (0, 0))))
 case atStart => exact ⟨0, 0, rfl, rfl, H, ⟨Nat.le_refl _⟩, HB1, HX1⟩
 case round =>
  clear H HB1 HX1
  clear hq0 hqf0 hq1 hqf1 hq2 hqf2 hq3 hqf3 hq4 hqf4 hq5 hqf5 hq6 hqf6 hq7 hqf7
  obtain ⟨i, n, rfl, rfl, HA, HK, HBr, HXr⟩ := hrel
  obtain ⟨hq0, hqf0, hq1, hqf1, hq2, hqf2, hq3, hqf3, hq4, hqf4, hq5, hqf5, hq6, hqf6, hq7, hqf7⟩ := cells8 HXr.out
  cases gk with
  | zero => exact absurd HA.out (by simp [kaL])
  | succ k1 =>
   have H := HA.out
   clear HA
   simp only [kaL] at H
   by_cases c7 : i < (x.f7.length : Int)
   ·rw [if_pos c7] at H
    by_cases c8 : 0 ≤ i
    ·rw [if_pos c8] at H
     obtain ⟨ad, A7, c77, e, hx0, hx1, hx2, hx3, hx4, hx5, hx6, hx7, hl7, hi7⟩ := at_T24 HC.out i c8 c7
     cases e
     replace hx0 := (HBr.out.cell (World.block_lt_of_cell? w _ hx0)).trans hx0
     replace hx1 := (HBr.out.cell (World.block_lt_of_cell? w _ hx1)).trans hx1
     replace hx2 := (HBr.out.cell (World.block_lt_of_cell? w _ hx2)).trans hx2
     replace hx3 := (HBr.out.cell (World.block_lt_of_cell? w _ hx3)).trans hx3
     replace hx4 := (HBr.out.cell (World.block_lt_of_cell? w _ hx4)).trans hx4
     replace hx5 := (HBr.out.cell (World.block_lt_of_cell? w _ hx5)).trans hx5
     replace hx6 := (HBr.out.cell (World.block_lt_of_cell? w _ hx6)).trans hx6
     replace hx7 := (HBr.out.cell (World.block_lt_of_cell? w _ hx7)).trans hx7
     clear hl7 hi7
     have c7b := decide_eq_true c7
     have c8b := decide_eq_true c8
     replace c7 := eq_true c7
     replace c8 := eq_true c8
     obtain ⟨y, hy⟩ : ∃ y, rd_T24 x.f7 i = y := ⟨_, rfl⟩
     rw [hy] at H hx0 hx1 hx2 hx3 hx4 hx5 hx6 hx7
     clear hy
     obtain ⟨b, hm, H⟩ := Option.bind_eq_some_iff.mp H
     have HM := Aside0.mk hm
     clear hm
     go_upto_region 17 with (first | ((with_reducible refine gate_dst (N := 7) rfl ?_); refine box_event ?hg (N := 7) ?hd (cs := #[.int .i64 0, .string (⟨#[]⟩ : ByteArray), .int .i64 0, .int .i64 0, .int .i64 0, .int .i64 0, .string (⟨#[]⟩ : ByteArray), .slice none 0 0]) (t := 24) ?hr ?_; (case hd => rfl); (case hg => rfl); (case hr => first | (go_simp; done) | (go_simp; rfl)); intro g2 hg w3 hbox hb; have HB3 := Aside0.mk (below_step HBr.out hb); have HX3 := Aside0.mk (blk_below HXr.out hb); have hgW2 := Aside0.mk (show w.heap.size ≤ g2 by rw [hg]; exact HBr.out.size); have hne : gx ≠ g2 := (fun e => by subst e; exact absurd (blk_lt HXr.out) (by omega)); have HK3 := Aside0.mk hbox; have hp0 := pw_cell_below hb hq0; have hp1 := pw_cell_below hb hq1; have hp2 := pw_cell_below hb hq2; have hp3 := pw_cell_below hb hq3; have hp4 := pw_cell_below hb hq4; have hp5 := pw_cell_below hb hq5; have hp6 := pw_cell_below hb hq6; have hp7 := pw_cell_below hb hq7; obtain ⟨hz0, hzf0, hz1, hzf1, hz2, hzf2, hz3, hzf3, hz4, hzf4, hz5, hzf5, hz6, hzf6, hz7, hzf7⟩ := cells8 hbox; clear hbox hb hg))
     obtain ⟨wq, hwq, q1, q2, q3⟩ := put8 w3 g2 (.int .i64 y.f0) (.string y.f1) (.int .i64 y.f2) (.int .i64 y.f3) (.int .i64 y.f4) (.int .i64 y.f5) (.string y.f6) (.slice A7 y.f7.length c77)
     rw [hwq]
     have HBq := Aside0.mk (q1 w HB3.out hgW2.out)
     have HXq := Aside0.mk (q2 gx _ _ hne HX3.out)
     have HKq := Aside0.mk (q3 _ _ _ _ _ _ _ _ _ HK3.out)
     clear hwq q1 q2 q3 HBr HXr HB3 HX3 HK3 hz0 hzf0 hp0 hq0 hqf0 hz1 hzf1 hp1 hq1 hqf1 hz2 hzf2 hp2 hq2 hqf2 hz3 hzf3 hp3 hq3 hqf3 hz4 hzf4 hp4 hq4 hqf4 hz5 hzf5 hp5 hq5 hqf5 hz6 hzf6 hp6 hq6 hqf6 hz7 hzf7 hp7 hq7 hqf7
     obtain ⟨hq0, hqf0, hq1, hqf1, hq2, hqf2, hq3, hqf3, hq4, hqf4, hq5, hqf5, hq6, hqf6, hq7, hqf7⟩ := cells8 HXq.out
     obtain ⟨hk0, hkf0, hk1, hkf1, hk2, hkf2, hk3, hkf3, hk4, hkf4, hk5, hkf5, hk6, hkf6, hk7, hkf7⟩ := cells8 HKq.out
     go_wp2_with (fail)
     refine (glossaryref07_may.calls 7 y.f0 b _ HM.out).mono ?_
     rintro e w4 ⟨rfl, hb⟩
     have hbb := drawn_below hb
     have HB4 := Aside0.mk (below_step HBq.out hbb)
     have HX4 := Aside0.mk (blk_below HXq.out hbb)
     have HK4 := Aside0.mk (blk_below HKq.out hbb)
     clear hb hbb hk0 hkf0 hq0 hqf0 hk1 hkf1 hq1 hqf1 hk2 hkf2 hq2 hqf2 hk3 hkf3 hq3 hqf3 hk4 hkf4 hq4 hqf4 hk5 hkf5 hq5 hqf5 hk6 hkf6 hq6 hqf6 hk7 hkf7 hq7 hqf7
     obtain ⟨hq0, hqf0, hq1, hqf1, hq2, hqf2, hq3, hqf3, hq4, hqf4, hq5, hqf5, hq6, hqf6, hq7, hqf7⟩ := cells8 HX4.out
     obtain ⟨hk0, hkf0, hk1, hkf1, hk2, hkf2, hk3, hkf3, hk4, hkf4, hk5, hkf5, hk6, hkf6, hk7, hkf7⟩ := cells8 HK4.out
     cases b with
     | false =>
      obtain rfl := Option.some.inj (show some false = some r from H)
      go_wp2
      go_ret
      exact ⟨rfl, HB4.out⟩
     | true =>
      rw [if_neg (by decide)] at H
      rw [if_neg (fun hq => absurd hq.1 (by decide))] at H
      by_cases h3 : y.f0 = 3
      ·rw [if_pos h3] at H
       have H := Aside0.mk H
       have h3b : (y.f0 == 3) = true := beq_iff_eq.mpr h3
       have h3d : decide (y.f0 = 3) = true := decide_eq_true h3
       clear h3
       go_wp2
       go_roundg k1
       case measure => have := HK.out; omega
       case rel => exact ⟨wrap64 (i + 1), wrap64 (n + 1), rfl, rfl, H, ⟨by have := HK.out; omega⟩, HB4, HX4⟩
      ·rw [if_neg h3] at H
       have H := Aside0.mk H
       have h3b : (y.f0 == 3) = false := beq_eq_false_iff_ne.mpr h3
       have h3d : decide (y.f0 = 3) = false := decide_eq_false h3
       clear h3
       go_wp2
       go_roundg k1
       case measure => have := HK.out; omega
       case rel => exact ⟨wrap64 (i + 1), n, rfl, rfl, H, ⟨by have := HK.out; omega⟩, HB4, HX4⟩
    ·rw [if_neg c8] at H
     exact absurd H (by simp)
   ·rw [if_neg c7] at H
    obtain rfl := Option.some.inj H
    have c7b := decide_eq_false c7
    clear c7
    cases hn : decide (n ≤ 1)
    ·go_wp2
     go_ret
     exact ⟨rfl, HBr.out⟩
    ·go_wp2
     go_ret
     exact ⟨by simp, HBr.out⟩
set_option maxHeartbeats 16000000 in
set_option maxRecDepth 100000 in
theorem rkids_8 (k : Nat) (x : S24) (A : Option Addr) (c : Nat) (r : Bool) (w : World) (hC : Kd.C k24 w A x.f7.length x.f7) (hc : x.f7.length ≤ c) (h : kaL k 8 x.f7 0 0 = some r) :
  Calls Tryz.prog 29 #[.agg #[.int .i64 8, .string x.f1, .int .i64 x.f2, .int .i64 x.f3, .int .i64 x.f4, .int .i64 x.f5, .string x.f6, .slice A x.f7.length c]] w fun e w' => e = .returned (.bool r) ∧ Below w.heap.size w w' := by
 have HC := Aside0.mk hC
 have Hc := Aside0.mk hc
 have H := Aside0.mk h
 clear hC hc h
 go_enter Tryz.func29, Tryz.ntmps29
 go_wp2_with (first | ((with_reducible refine gate_dst (N := 1) rfl ?_); refine box_event ?hg (N := 1) ?hd (cs := #[.int .i64 8, .string x.f1, .int .i64 x.f2, .int .i64 x.f3, .int .i64 x.f4, .int .i64 x.f5, .string x.f6, .slice A x.f7.length c]) (t := 24) ?hr ?_; (case hd => rfl); (case hg => rfl); (case hr => first | (go_simp; done) | (go_simp; rfl)); intro gx hg w1 hbox hb; have HB1 := Aside0.mk hb; have HX1 := Aside0.mk hbox; obtain ⟨hq0, hqf0, hq1, hqf1, hq2, hqf2, hq3, hqf3, hq4, hqf4, hq5, hqf5, hq6, hqf6, hq7, hqf7⟩ := cells8 hbox; clear hbox hb hg))
 go_loopg [30, 5] k (fun kq v30 v5 w' => ∃ (i n : Int), v30 = .int .i64 i ∧ v5 = .int .i64 n ∧ Aside0 (kaL kq 8 x.f7 i n = some r) ∧ Aside0 (kq ≤ k) ∧ Aside0 (Below w.heap.size w w') ∧ Aside0 (w'.heap[gx]? = some (.cells #[.int .i64 8, .string x.f1, .int .i64 x.f2, .int .i64 x.f3, .int .i64 x.f4, .int .i64 x.f5, .string x.f6, .slice A x.f7.length c] 24 (0, 0))))
 case atStart => exact ⟨0, 0, rfl, rfl, H, ⟨Nat.le_refl _⟩, HB1, HX1⟩
 case round =>
  clear H HB1 HX1
  clear hq0 hqf0 hq1 hqf1 hq2 hqf2 hq3 hqf3 hq4 hqf4 hq5 hqf5 hq6 hqf6 hq7 hqf7
  obtain ⟨i, n, rfl, rfl, HA, HK, HBr, HXr⟩ := hrel
  obtain ⟨hq0, hqf0, hq1, hqf1, hq2, hqf2, hq3, hqf3, hq4, hqf4, hq5, hqf5, hq6, hqf6, hq7, hqf7⟩ := cells8 HXr.out
  cases gk with
  | zero => exact absurd HA.out (by simp [kaL])
  | succ k1 =>
   have H := HA.out
   clear HA
   simp only [kaL] at H
   by_cases c7 : i < (x.f7.length : Int)
   ·rw [if_pos c7] at H
    by_cases c8 : 0 ≤ i
    ·rw [if_pos c8] at H
     obtain ⟨ad, A7, c77, e, hx0, hx1, hx2, hx3, hx4, hx5, hx6, hx7, hl7, hi7⟩ := at_T24 HC.out i c8 c7
     cases e
     replace hx0 := (HBr.out.cell (World.block_lt_of_cell? w _ hx0)).trans hx0
     replace hx1 := (HBr.out.cell (World.block_lt_of_cell? w _ hx1)).trans hx1
     replace hx2 := (HBr.out.cell (World.block_lt_of_cell? w _ hx2)).trans hx2
     replace hx3 := (HBr.out.cell (World.block_lt_of_cell? w _ hx3)).trans hx3
     replace hx4 := (HBr.out.cell (World.block_lt_of_cell? w _ hx4)).trans hx4
     replace hx5 := (HBr.out.cell (World.block_lt_of_cell? w _ hx5)).trans hx5
     replace hx6 := (HBr.out.cell (World.block_lt_of_cell? w _ hx6)).trans hx6
     replace hx7 := (HBr.out.cell (World.block_lt_of_cell? w _ hx7)).trans hx7
     clear hl7 hi7
     have c7b := decide_eq_true c7
     have c8b := decide_eq_true c8
     replace c7 := eq_true c7
     replace c8 := eq_true c8
     obtain ⟨y, hy⟩ : ∃ y, rd_T24 x.f7 i = y := ⟨_, rfl⟩
     rw [hy] at H hx0 hx1 hx2 hx3 hx4 hx5 hx6 hx7
     clear hy
     obtain ⟨b, hm, H⟩ := Option.bind_eq_some_iff.mp H
     have HM := Aside0.mk hm
     clear hm
     go_upto_region 17 with (first | ((with_reducible refine gate_dst (N := 7) rfl ?_); refine box_event ?hg (N := 7) ?hd (cs := #[.int .i64 0, .string (⟨#[]⟩ : ByteArray), .int .i64 0, .int .i64 0, .int .i64 0, .int .i64 0, .string (⟨#[]⟩ : ByteArray), .slice none 0 0]) (t := 24) ?hr ?_; (case hd => rfl); (case hg => rfl); (case hr => first | (go_simp; done) | (go_simp; rfl)); intro g2 hg w3 hbox hb; have HB3 := Aside0.mk (below_step HBr.out hb); have HX3 := Aside0.mk (blk_below HXr.out hb); have hgW2 := Aside0.mk (show w.heap.size ≤ g2 by rw [hg]; exact HBr.out.size); have hne : gx ≠ g2 := (fun e => by subst e; exact absurd (blk_lt HXr.out) (by omega)); have HK3 := Aside0.mk hbox; have hp0 := pw_cell_below hb hq0; have hp1 := pw_cell_below hb hq1; have hp2 := pw_cell_below hb hq2; have hp3 := pw_cell_below hb hq3; have hp4 := pw_cell_below hb hq4; have hp5 := pw_cell_below hb hq5; have hp6 := pw_cell_below hb hq6; have hp7 := pw_cell_below hb hq7; obtain ⟨hz0, hzf0, hz1, hzf1, hz2, hzf2, hz3, hzf3, hz4, hzf4, hz5, hzf5, hz6, hzf6, hz7, hzf7⟩ := cells8 hbox; clear hbox hb hg))
     obtain ⟨wq, hwq, q1, q2, q3⟩ := put8 w3 g2 (.int .i64 y.f0) (.string y.f1) (.int .i64 y.f2) (.int .i64 y.f3) (.int .i64 y.f4) (.int .i64 y.f5) (.string y.f6) (.slice A7 y.f7.length c77)
     rw [hwq]
     have HBq := Aside0.mk (q1 w HB3.out hgW2.out)
     have HXq := Aside0.mk (q2 gx _ _ hne HX3.out)
     have HKq := Aside0.mk (q3 _ _ _ _ _ _ _ _ _ HK3.out)
     clear hwq q1 q2 q3 HBr HXr HB3 HX3 HK3 hz0 hzf0 hp0 hq0 hqf0 hz1 hzf1 hp1 hq1 hqf1 hz2 hzf2 hp2 hq2 hqf2 hz3 hzf3 hp3 hq3 hqf3 hz4 hzf4 hp4 hq4 hqf4 hz5 hzf5 hp5 hq5 hqf5 hz6 hzf6 hp6 hq6 hqf6 hz7 hzf7 hp7 hq7 hqf7
     obtain ⟨hq0, hqf0, hq1, hqf1, hq2, hqf2, hq3, hqf3, hq4, hqf4, hq5, hqf5, hq6, hqf6, hq7, hqf7⟩ := cells8 HXq.out
     obtain ⟨hk0, hkf0, hk1, hkf1, hk2, hkf2, hk3, hkf3, hk4, hkf4, hk5, hkf5, hk6, hkf6, hk7, hkf7⟩ := cells8 HKq.out
     go_wp2_with (fail)
     refine (glossaryref07_may.calls 8 y.f0 b _ HM.out).mono ?_
     rintro e w4 ⟨rfl, hb⟩
     have hbb := drawn_below hb
     have HB4 := Aside0.mk (below_step HBq.out hbb)
     have HX4 := Aside0.mk (blk_below HXq.out hbb)
     have HK4 := Aside0.mk (blk_below HKq.out hbb)
     clear hb hbb hk0 hkf0 hq0 hqf0 hk1 hkf1 hq1 hqf1 hk2 hkf2 hq2 hqf2 hk3 hkf3 hq3 hqf3 hk4 hkf4 hq4 hqf4 hk5 hkf5 hq5 hqf5 hk6 hkf6 hq6 hqf6 hk7 hkf7 hq7 hqf7
     obtain ⟨hq0, hqf0, hq1, hqf1, hq2, hqf2, hq3, hqf3, hq4, hqf4, hq5, hqf5, hq6, hqf6, hq7, hqf7⟩ := cells8 HX4.out
     obtain ⟨hk0, hkf0, hk1, hkf1, hk2, hkf2, hk3, hkf3, hk4, hkf4, hk5, hkf5, hk6, hkf6, hk7, hkf7⟩ := cells8 HK4.out
     cases b with
     | false =>
      obtain rfl := Option.some.inj (show some false = some r from H)
      go_wp2
      go_ret
      exact ⟨rfl, HB4.out⟩
     | true =>
      rw [if_neg (by decide)] at H
      rw [if_neg (fun hq => absurd hq.1 (by decide))] at H
      by_cases h3 : y.f0 = 3
      ·rw [if_pos h3] at H
       have H := Aside0.mk H
       have h3b : (y.f0 == 3) = true := beq_iff_eq.mpr h3
       have h3d : decide (y.f0 = 3) = true := decide_eq_true h3
       clear h3
       go_wp2
       go_roundg k1
       case measure => have := HK.out; omega
       case rel => exact ⟨wrap64 (i + 1), wrap64 (n + 1), rfl, rfl, H, ⟨by have := HK.out; omega⟩, HB4, HX4⟩
      ·rw [if_neg h3] at H
       have H := Aside0.mk H
       have h3b : (y.f0 == 3) = false := beq_eq_false_iff_ne.mpr h3
       have h3d : decide (y.f0 = 3) = false := decide_eq_false h3
       clear h3
       go_wp2
       go_roundg k1
       case measure => have := HK.out; omega
       case rel => exact ⟨wrap64 (i + 1), n, rfl, rfl, H, ⟨by have := HK.out; omega⟩, HB4, HX4⟩
    ·rw [if_neg c8] at H
     exact absurd H (by simp)
   ·rw [if_neg c7] at H
    obtain rfl := Option.some.inj H
    have c7b := decide_eq_false c7
    clear c7
    cases hn : decide (n ≤ 1)
    ·go_wp2
     go_ret
     exact ⟨rfl, HBr.out⟩
    ·go_wp2
     go_ret
     exact ⟨by simp, HBr.out⟩
end Go.Proofs.YtdkepckkihclgaaGreatDoor.PNodeChecks

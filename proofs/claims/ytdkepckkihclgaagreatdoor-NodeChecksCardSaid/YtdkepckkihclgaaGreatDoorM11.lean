import Derived.Test.YtdkepckkihclgaaGreatDoorM10
namespace Go.Proofs.YtdkepckkihclgaaGreatDoor.PNodeChecks
open Go.RowKit Go.Proofs.YtdkepckkihclgaaGreatDoorW.PrintWords Go.Proofs.YtdkepckkihclgaaGreatDoorW.PrintLast Go.Proofs.YtdkepckkihclgaaGreatDoorW.PrintMore
set_option linter.unusedVariables false
set_option linter.unusedSimpArgs false
def NoK (κ : Int) : Prop := (κ == 1) = false ∧ decide (κ = 1) = false ∧ (κ == 5) = false ∧ decide (κ = 5) = false ∧ (κ == 6) = false ∧ decide (κ = 6) = false ∧ (κ == 7) = false ∧ decide (κ = 7) = false ∧ (κ == 8) = false ∧ decide (κ = 8) = false ∧ (κ == 11) = false ∧ decide (κ = 11) = false ∧ (κ == 12) = false ∧ decide (κ = 12) = false ∧ (κ == 23) = false ∧ decide (κ = 23) = false ∧ (κ == 16) = false ∧ decide (κ = 16) = false ∧ (κ == 13) = false ∧ decide (κ = 13) = false ∧ (κ == 4) = false ∧ decide (κ = 4) = false ∧ (κ == 24) = false ∧ decide (κ = 24) = false ∧ (κ == 9) = false ∧ decide (κ = 9) = false ∧ (κ == 10) = false ∧ decide (κ = 10) = false ∧ (κ == 17) = false ∧ decide (κ = 17) = false ∧ (κ != 10) = true
def knL : Nat → Int → List S24 → Int → Option Bool → Option Bool
 | 0, _, _, _, _ => none
 | k + 1, need, l, i, e => if i < (l.length : Int) then (if 0 ≤ i then (if need = 0 then some false else if i < need then (if (rd_T24 l i).f0 = 18 then knL k need l (wrap64 (i + 1)) e else some false) else (if (rd_T24 l i).f0 = 4 then knL k need l (wrap64 (i + 1)) e else some false)) else none) else e
def rsole (l : List S24) : Option Bool := if l.length = 1 then glossaryref07_worth.f (rd_T24 l 0).f0 else some false
def rword (k : Nat) (l : List S24) : Option Bool := if 2 ≤ l.length then (glossaryref05_Word.f k (rd_T24 l 0).f1).map (fun v => v != 0) else some false
def optL : Nat → List S24 → Int → Option Bool
 | 0, _, _ => none
 | k + 1, l, i => if i < (l.length : Int) then (if 0 ≤ i then (if i < wrap64 ((l.length : Int) - 1) then (if (rd_T24 l i).f0 = 19 then optL k l (wrap64 (i + 1)) else some false) else optL k l (wrap64 (i + 1))) else none) else (if 2 ≤ l.length then (if 0 ≤ wrap64 ((l.length : Int) - 1) ∧ wrap64 ((l.length : Int) - 1) < (l.length : Int) then glossaryref07_worth.f (rd_T24 l (wrap64 ((l.length : Int) - 1))).f0 else none) else some false)
def resL : Nat → List S24 → Int → Option Bool
 | 0, _, _ => none
 | k + 1, l, i => if i < (l.length : Int) then (if 0 ≤ i then (if (rd_T24 l i).f0 ≠ 14 ∧ (rd_T24 l i).f0 ≠ 15 then some false else if (rd_T24 l i).f0 ≠ (rd_T24 l 0).f0 then some false else resL k l (wrap64 (i + 1))) else none) else some (decide (0 < l.length))
set_option maxHeartbeats 16000000 in
set_option maxRecDepth 100000 in
theorem rkids_n0 (κ : Int) (hκ : NoK κ) (k : Nat) (x : S24) (A : Option Addr) (c : Nat) (r : Bool) (w : World) (hC : Kd.C k24 w A x.f7.length x.f7) (hc : x.f7.length ≤ c) (h : knL k 0 x.f7 0 (some (decide (0 ≤ x.f7.length))) = some r) :
  Calls Tryz.prog 29 #[.agg #[.int .i64 κ, .string x.f1, .int .i64 x.f2, .int .i64 x.f3, .int .i64 x.f4, .int .i64 x.f5, .string x.f6, .slice A x.f7.length c]] w fun e w' => e = .returned (.bool r) ∧ Below w.heap.size w w' := by
 have HC := Aside0.mk hC
 have Hc := Aside0.mk hc
 have H := Aside0.mk h
 clear hC hc h
 obtain ⟨k1, d1, k5, d5, k6, d6, k7, d7, k8, d8, k11, d11, k12, d12, k23, d23, k16, d16, k13, d13, k4, d4, k24, d24, k9, d9, k10, d10, k17, d17, n10⟩ := hκ
 go_enter Tryz.func29, Tryz.ntmps29
 go_wp2_with (first | ((with_reducible refine gate_dst (N := 1) rfl ?_); refine box_event ?hg (N := 1) ?hd (cs := #[.int .i64 κ, .string x.f1, .int .i64 x.f2, .int .i64 x.f3, .int .i64 x.f4, .int .i64 x.f5, .string x.f6, .slice A x.f7.length c]) (t := 24) ?hr ?_; (case hd => rfl); (case hg => rfl); (case hr => first | (go_simp; done) | (go_simp; rfl)); intro gx hg w1 hbox hb; have HB1 := Aside0.mk hb; have HX1 := Aside0.mk hbox; obtain ⟨hq0, hqf0, hq1, hqf1, hq2, hqf2, hq3, hqf3, hq4, hqf4, hq5, hqf5, hq6, hqf6, hq7, hqf7⟩ := cells8 hbox; clear hbox hb hg))
 go_loopg [154] k (fun kq v154 w' => ∃ (i : Int), v154 = .int .i64 i ∧ Aside0 (knL kq 0 x.f7 i (some (decide (0 ≤ x.f7.length))) = some r) ∧ Aside0 (kq ≤ k) ∧ Aside0 (Below w.heap.size w w') ∧ Aside0 (w'.heap[gx]? = some (.cells #[.int .i64 κ, .string x.f1, .int .i64 x.f2, .int .i64 x.f3, .int .i64 x.f4, .int .i64 x.f5, .string x.f6, .slice A x.f7.length c] 24 (0, 0))))
 case atStart => exact ⟨0, rfl, H, ⟨Nat.le_refl _⟩, HB1, HX1⟩
 case round =>
  clear H HB1 HX1
  clear hq0 hqf0 hq1 hqf1 hq2 hqf2 hq3 hqf3 hq4 hqf4 hq5 hqf5 hq6 hqf6 hq7 hqf7
  obtain ⟨i, rfl, HA, HK, HBr, HXr⟩ := hrel
  obtain ⟨hq0, hqf0, hq1, hqf1, hq2, hqf2, hq3, hqf3, hq4, hqf4, hq5, hqf5, hq6, hqf6, hq7, hqf7⟩ := cells8 HXr.out
  cases gk with
  | zero => exact absurd HA.out (by simp [knL])
  | succ k1 =>
   have H := HA.out
   clear HA
   simp only [knL] at H
   by_cases c7 : i < (x.f7.length : Int)
   ·rw [if_pos c7] at H
    by_cases c8 : 0 ≤ i
    ·rw [if_pos c8] at H
     obtain ⟨ad, A7, c77, e, hx0, hx1, hx2, hx3, hx4, hx5, hx6, hx7, hl7, hi7⟩ := at_T24 HC.out i c8 c7
     cases e
     replace hx0 := (HBr.out.cell (World.block_lt_of_cell? w _ hx0)).trans hx0
     replace hx1 := (HBr.out.cell (World.block_lt_of_cell? w _ hx1)).trans hx1
     replace hx2 := (HBr.out.cell (World.block_lt_of_cell? w _ hx2)).trans hx2
     replace hx3 := (HBr.out.cell (World.block_lt_of_cell? w _ hx3)).trans hx3
     replace hx4 := (HBr.out.cell (World.block_lt_of_cell? w _ hx4)).trans hx4
     replace hx5 := (HBr.out.cell (World.block_lt_of_cell? w _ hx5)).trans hx5
     replace hx6 := (HBr.out.cell (World.block_lt_of_cell? w _ hx6)).trans hx6
     replace hx7 := (HBr.out.cell (World.block_lt_of_cell? w _ hx7)).trans hx7
     clear hl7 hi7
     have c7b := decide_eq_true c7
     have c8b := decide_eq_true c8
     replace c7 := eq_true c7
     replace c8 := eq_true c8
     obtain ⟨y, hy⟩ : ∃ y, rd_T24 x.f7 i = y := ⟨_, rfl⟩
     rw [hy] at H hx0 hx1 hx2 hx3 hx4 hx5 hx6 hx7
     clear hy
     rw [if_pos trivial] at H
     obtain rfl := Option.some.inj H
     go_wp2_with (first | ((with_reducible refine gate_dst (N := 13) rfl ?_); refine box_event ?hg (N := 13) ?hd (cs := #[.int .i64 0, .string (⟨#[]⟩ : ByteArray), .int .i64 0, .int .i64 0, .int .i64 0, .int .i64 0, .string (⟨#[]⟩ : ByteArray), .slice none 0 0]) (t := 24) ?hr ?_; (case hd => rfl); (case hg => rfl); (case hr => first | (go_simp; done) | (go_simp; rfl)); intro g2 hg w3 hbox hb; have HB3 := Aside0.mk (below_step HBr.out hb); have HX3 := Aside0.mk (blk_below HXr.out hb); have hgW2 := Aside0.mk (show w.heap.size ≤ g2 by rw [hg]; exact HBr.out.size); have hne : gx ≠ g2 := (fun e => by subst e; exact absurd (blk_lt HXr.out) (by omega)); have HK3 := Aside0.mk hbox; have hp0 := pw_cell_below hb hq0; have hp1 := pw_cell_below hb hq1; have hp2 := pw_cell_below hb hq2; have hp3 := pw_cell_below hb hq3; have hp4 := pw_cell_below hb hq4; have hp5 := pw_cell_below hb hq5; have hp6 := pw_cell_below hb hq6; have hp7 := pw_cell_below hb hq7; obtain ⟨hz0, hzf0, hz1, hzf1, hz2, hzf2, hz3, hzf3, hz4, hzf4, hz5, hzf5, hz6, hzf6, hz7, hzf7⟩ := cells8 hbox; clear hbox hb hg))
     go_ret
     exact ⟨rfl, (below_set (below_set (below_set (below_set (below_set (below_set (below_set (below_set HB3.out hgW2.out (j := 0)) hgW2.out (j := 1)) hgW2.out (j := 2)) hgW2.out (j := 3)) hgW2.out (j := 4)) hgW2.out (j := 5)) hgW2.out (j := 6)) hgW2.out (j := 7))⟩
    ·rw [if_neg c8] at H
     exact absurd H (by simp)
   ·rw [if_neg c7] at H
    have c7b := decide_eq_false c7
    clear c7
    obtain rfl := Option.some.inj H
    by_cases hn : 0 ≤ x.f7.length
    ·have n0 : decide ((0 : Int) ≤ (x.f7.length : Int)) = true := decide_eq_true (by omega)
     have n1 : decide ((x.f7.length : Int) ≥ 0) = true := n0
     go_wp2
     go_ret
     exact ⟨by first | rfl | (rw [decide_eq_true hn]; rfl), HBr.out⟩
    ·exact absurd (Nat.zero_le _) hn
set_option maxHeartbeats 16000000 in
set_option maxRecDepth 100000 in
theorem rkids_9 (k : Nat) (x : S24) (A : Option Addr) (c : Nat) (r : Bool) (w : World) (hC : Kd.C k24 w A x.f7.length x.f7) (hc : x.f7.length ≤ c) (h : knL k 1 x.f7 0 (some (decide (1 ≤ x.f7.length))) = some r) :
  Calls Tryz.prog 29 #[.agg #[.int .i64 9, .string x.f1, .int .i64 x.f2, .int .i64 x.f3, .int .i64 x.f4, .int .i64 x.f5, .string x.f6, .slice A x.f7.length c]] w fun e w' => e = .returned (.bool r) ∧ Below w.heap.size w w' := by
 have HC := Aside0.mk hC
 have Hc := Aside0.mk hc
 have H := Aside0.mk h
 clear hC hc h
 go_enter Tryz.func29, Tryz.ntmps29
 go_wp2_with (first | ((with_reducible refine gate_dst (N := 1) rfl ?_); refine box_event ?hg (N := 1) ?hd (cs := #[.int .i64 9, .string x.f1, .int .i64 x.f2, .int .i64 x.f3, .int .i64 x.f4, .int .i64 x.f5, .string x.f6, .slice A x.f7.length c]) (t := 24) ?hr ?_; (case hd => rfl); (case hg => rfl); (case hr => first | (go_simp; done) | (go_simp; rfl)); intro gx hg w1 hbox hb; have HB1 := Aside0.mk hb; have HX1 := Aside0.mk hbox; obtain ⟨hq0, hqf0, hq1, hqf1, hq2, hqf2, hq3, hqf3, hq4, hqf4, hq5, hqf5, hq6, hqf6, hq7, hqf7⟩ := cells8 hbox; clear hbox hb hg))
 go_loopg [154] k (fun kq v154 w' => ∃ (i : Int), v154 = .int .i64 i ∧ Aside0 (knL kq 1 x.f7 i (some (decide (1 ≤ x.f7.length))) = some r) ∧ Aside0 (kq ≤ k) ∧ Aside0 (Below w.heap.size w w') ∧ Aside0 (w'.heap[gx]? = some (.cells #[.int .i64 9, .string x.f1, .int .i64 x.f2, .int .i64 x.f3, .int .i64 x.f4, .int .i64 x.f5, .string x.f6, .slice A x.f7.length c] 24 (0, 0))))
 case atStart => exact ⟨0, rfl, H, ⟨Nat.le_refl _⟩, HB1, HX1⟩
 case round =>
  clear H HB1 HX1
  clear hq0 hqf0 hq1 hqf1 hq2 hqf2 hq3 hqf3 hq4 hqf4 hq5 hqf5 hq6 hqf6 hq7 hqf7
  obtain ⟨i, rfl, HA, HK, HBr, HXr⟩ := hrel
  obtain ⟨hq0, hqf0, hq1, hqf1, hq2, hqf2, hq3, hqf3, hq4, hqf4, hq5, hqf5, hq6, hqf6, hq7, hqf7⟩ := cells8 HXr.out
  cases gk with
  | zero => exact absurd HA.out (by simp [knL])
  | succ k1 =>
   have H := HA.out
   clear HA
   simp only [knL] at H
   by_cases c7 : i < (x.f7.length : Int)
   ·rw [if_pos c7] at H
    by_cases c8 : 0 ≤ i
    ·rw [if_pos c8] at H
     obtain ⟨ad, A7, c77, e, hx0, hx1, hx2, hx3, hx4, hx5, hx6, hx7, hl7, hi7⟩ := at_T24 HC.out i c8 c7
     cases e
     replace hx0 := (HBr.out.cell (World.block_lt_of_cell? w _ hx0)).trans hx0
     replace hx1 := (HBr.out.cell (World.block_lt_of_cell? w _ hx1)).trans hx1
     replace hx2 := (HBr.out.cell (World.block_lt_of_cell? w _ hx2)).trans hx2
     replace hx3 := (HBr.out.cell (World.block_lt_of_cell? w _ hx3)).trans hx3
     replace hx4 := (HBr.out.cell (World.block_lt_of_cell? w _ hx4)).trans hx4
     replace hx5 := (HBr.out.cell (World.block_lt_of_cell? w _ hx5)).trans hx5
     replace hx6 := (HBr.out.cell (World.block_lt_of_cell? w _ hx6)).trans hx6
     replace hx7 := (HBr.out.cell (World.block_lt_of_cell? w _ hx7)).trans hx7
     clear hl7 hi7
     have c7b := decide_eq_true c7
     have c8b := decide_eq_true c8
     replace c7 := eq_true c7
     replace c8 := eq_true c8
     obtain ⟨y, hy⟩ : ∃ y, rd_T24 x.f7 i = y := ⟨_, rfl⟩
     rw [hy] at H hx0 hx1 hx2 hx3 hx4 hx5 hx6 hx7
     clear hy
     rw [if_neg (by decide)] at H
     by_cases hi : i < 1
     ·have d0 : decide (i < 1) = true := decide_eq_true hi
      have d1 : decide (i ≥ 1) = false := decide_eq_false (by omega)
      have d2 : decide (1 ≤ i) = false := decide_eq_false (by omega)
      rw [if_pos hi] at H
      clear hi
      by_cases hk : y.f0 = 18
      ·have k0 : (y.f0 == 18) = true := beq_iff_eq.mpr hk
       have k1_ : (y.f0 != 18) = false := bne_eq_false_iff_eq.mpr hk
       rw [if_pos hk] at H
       have H := Aside0.mk H
       clear hk
       go_wp2_with (first | ((with_reducible refine gate_dst (N := 13) rfl ?_); refine box_event ?hg (N := 13) ?hd (cs := #[.int .i64 0, .string (⟨#[]⟩ : ByteArray), .int .i64 0, .int .i64 0, .int .i64 0, .int .i64 0, .string (⟨#[]⟩ : ByteArray), .slice none 0 0]) (t := 24) ?hr ?_; (case hd => rfl); (case hg => rfl); (case hr => first | (go_simp; done) | (go_simp; rfl)); intro g2 hg w3 hbox hb; have HB3 := Aside0.mk (below_step HBr.out hb); have HX3 := Aside0.mk (blk_below HXr.out hb); have hgW2 := Aside0.mk (show w.heap.size ≤ g2 by rw [hg]; exact HBr.out.size); have hne : gx ≠ g2 := (fun e => by subst e; exact absurd (blk_lt HXr.out) (by omega)); have HK3 := Aside0.mk hbox; have hp0 := pw_cell_below hb hq0; have hp1 := pw_cell_below hb hq1; have hp2 := pw_cell_below hb hq2; have hp3 := pw_cell_below hb hq3; have hp4 := pw_cell_below hb hq4; have hp5 := pw_cell_below hb hq5; have hp6 := pw_cell_below hb hq6; have hp7 := pw_cell_below hb hq7; obtain ⟨hz0, hzf0, hz1, hzf1, hz2, hzf2, hz3, hzf3, hz4, hzf4, hz5, hzf5, hz6, hzf6, hz7, hzf7⟩ := cells8 hbox; clear hbox hb hg))
       go_roundg k1
       case measure => have := HK.out; omega
       case rel => exact ⟨wrap64 (i + 1), rfl, H, ⟨by have := HK.out; omega⟩, ⟨(below_set (below_set (below_set (below_set (below_set (below_set (below_set (below_set HB3.out hgW2.out (j := 0)) hgW2.out (j := 1)) hgW2.out (j := 2)) hgW2.out (j := 3)) hgW2.out (j := 4)) hgW2.out (j := 5)) hgW2.out (j := 6)) hgW2.out (j := 7))⟩, ⟨(blk_far (p := ⟨g2, 7, none⟩) (blk_far (p := ⟨g2, 6, none⟩) (blk_far (p := ⟨g2, 5, none⟩) (blk_far (p := ⟨g2, 4, none⟩) (blk_far (p := ⟨g2, 3, none⟩) (blk_far (p := ⟨g2, 2, none⟩) (blk_far (p := ⟨g2, 1, none⟩) (blk_far (p := ⟨g2, 0, none⟩) HX3.out hne _) hne _) hne _) hne _) hne _) hne _) hne _) hne _)⟩⟩
      ·have k0 : (y.f0 == 18) = false := beq_eq_false_iff_ne.mpr hk
       have k1_ : (y.f0 != 18) = true := bne_iff_ne.mpr hk
       rw [if_neg hk] at H
       clear hk
       obtain rfl := Option.some.inj H
       go_wp2_with (first | ((with_reducible refine gate_dst (N := 13) rfl ?_); refine box_event ?hg (N := 13) ?hd (cs := #[.int .i64 0, .string (⟨#[]⟩ : ByteArray), .int .i64 0, .int .i64 0, .int .i64 0, .int .i64 0, .string (⟨#[]⟩ : ByteArray), .slice none 0 0]) (t := 24) ?hr ?_; (case hd => rfl); (case hg => rfl); (case hr => first | (go_simp; done) | (go_simp; rfl)); intro g2 hg w3 hbox hb; have HB3 := Aside0.mk (below_step HBr.out hb); have HX3 := Aside0.mk (blk_below HXr.out hb); have hgW2 := Aside0.mk (show w.heap.size ≤ g2 by rw [hg]; exact HBr.out.size); have hne : gx ≠ g2 := (fun e => by subst e; exact absurd (blk_lt HXr.out) (by omega)); have HK3 := Aside0.mk hbox; have hp0 := pw_cell_below hb hq0; have hp1 := pw_cell_below hb hq1; have hp2 := pw_cell_below hb hq2; have hp3 := pw_cell_below hb hq3; have hp4 := pw_cell_below hb hq4; have hp5 := pw_cell_below hb hq5; have hp6 := pw_cell_below hb hq6; have hp7 := pw_cell_below hb hq7; obtain ⟨hz0, hzf0, hz1, hzf1, hz2, hzf2, hz3, hzf3, hz4, hzf4, hz5, hzf5, hz6, hzf6, hz7, hzf7⟩ := cells8 hbox; clear hbox hb hg))
       go_ret
       exact ⟨rfl, (below_set (below_set (below_set (below_set (below_set (below_set (below_set (below_set HB3.out hgW2.out (j := 0)) hgW2.out (j := 1)) hgW2.out (j := 2)) hgW2.out (j := 3)) hgW2.out (j := 4)) hgW2.out (j := 5)) hgW2.out (j := 6)) hgW2.out (j := 7))⟩
     ·have d0 : decide (i < 1) = false := decide_eq_false hi
      have d1 : decide (i ≥ 1) = true := decide_eq_true (by omega)
      have d2 : decide (1 ≤ i) = true := decide_eq_true (by omega)
      rw [if_neg hi] at H
      clear hi
      by_cases hk : y.f0 = 4
      ·have k0 : (y.f0 == 4) = true := beq_iff_eq.mpr hk
       have k1_ : (y.f0 != 4) = false := bne_eq_false_iff_eq.mpr hk
       rw [if_pos hk] at H
       have H := Aside0.mk H
       clear hk
       go_wp2_with (first | ((with_reducible refine gate_dst (N := 13) rfl ?_); refine box_event ?hg (N := 13) ?hd (cs := #[.int .i64 0, .string (⟨#[]⟩ : ByteArray), .int .i64 0, .int .i64 0, .int .i64 0, .int .i64 0, .string (⟨#[]⟩ : ByteArray), .slice none 0 0]) (t := 24) ?hr ?_; (case hd => rfl); (case hg => rfl); (case hr => first | (go_simp; done) | (go_simp; rfl)); intro g2 hg w3 hbox hb; have HB3 := Aside0.mk (below_step HBr.out hb); have HX3 := Aside0.mk (blk_below HXr.out hb); have hgW2 := Aside0.mk (show w.heap.size ≤ g2 by rw [hg]; exact HBr.out.size); have hne : gx ≠ g2 := (fun e => by subst e; exact absurd (blk_lt HXr.out) (by omega)); have HK3 := Aside0.mk hbox; have hp0 := pw_cell_below hb hq0; have hp1 := pw_cell_below hb hq1; have hp2 := pw_cell_below hb hq2; have hp3 := pw_cell_below hb hq3; have hp4 := pw_cell_below hb hq4; have hp5 := pw_cell_below hb hq5; have hp6 := pw_cell_below hb hq6; have hp7 := pw_cell_below hb hq7; obtain ⟨hz0, hzf0, hz1, hzf1, hz2, hzf2, hz3, hzf3, hz4, hzf4, hz5, hzf5, hz6, hzf6, hz7, hzf7⟩ := cells8 hbox; clear hbox hb hg))
       go_roundg k1
       case measure => have := HK.out; omega
       case rel => exact ⟨wrap64 (i + 1), rfl, H, ⟨by have := HK.out; omega⟩, ⟨(below_set (below_set (below_set (below_set (below_set (below_set (below_set (below_set HB3.out hgW2.out (j := 0)) hgW2.out (j := 1)) hgW2.out (j := 2)) hgW2.out (j := 3)) hgW2.out (j := 4)) hgW2.out (j := 5)) hgW2.out (j := 6)) hgW2.out (j := 7))⟩, ⟨(blk_far (p := ⟨g2, 7, none⟩) (blk_far (p := ⟨g2, 6, none⟩) (blk_far (p := ⟨g2, 5, none⟩) (blk_far (p := ⟨g2, 4, none⟩) (blk_far (p := ⟨g2, 3, none⟩) (blk_far (p := ⟨g2, 2, none⟩) (blk_far (p := ⟨g2, 1, none⟩) (blk_far (p := ⟨g2, 0, none⟩) HX3.out hne _) hne _) hne _) hne _) hne _) hne _) hne _) hne _)⟩⟩
      ·have k0 : (y.f0 == 4) = false := beq_eq_false_iff_ne.mpr hk
       have k1_ : (y.f0 != 4) = true := bne_iff_ne.mpr hk
       rw [if_neg hk] at H
       clear hk
       obtain rfl := Option.some.inj H
       go_wp2_with (first | ((with_reducible refine gate_dst (N := 13) rfl ?_); refine box_event ?hg (N := 13) ?hd (cs := #[.int .i64 0, .string (⟨#[]⟩ : ByteArray), .int .i64 0, .int .i64 0, .int .i64 0, .int .i64 0, .string (⟨#[]⟩ : ByteArray), .slice none 0 0]) (t := 24) ?hr ?_; (case hd => rfl); (case hg => rfl); (case hr => first | (go_simp; done) | (go_simp; rfl)); intro g2 hg w3 hbox hb; have HB3 := Aside0.mk (below_step HBr.out hb); have HX3 := Aside0.mk (blk_below HXr.out hb); have hgW2 := Aside0.mk (show w.heap.size ≤ g2 by rw [hg]; exact HBr.out.size); have hne : gx ≠ g2 := (fun e => by subst e; exact absurd (blk_lt HXr.out) (by omega)); have HK3 := Aside0.mk hbox; have hp0 := pw_cell_below hb hq0; have hp1 := pw_cell_below hb hq1; have hp2 := pw_cell_below hb hq2; have hp3 := pw_cell_below hb hq3; have hp4 := pw_cell_below hb hq4; have hp5 := pw_cell_below hb hq5; have hp6 := pw_cell_below hb hq6; have hp7 := pw_cell_below hb hq7; obtain ⟨hz0, hzf0, hz1, hzf1, hz2, hzf2, hz3, hzf3, hz4, hzf4, hz5, hzf5, hz6, hzf6, hz7, hzf7⟩ := cells8 hbox; clear hbox hb hg))
       go_ret
       exact ⟨rfl, (below_set (below_set (below_set (below_set (below_set (below_set (below_set (below_set HB3.out hgW2.out (j := 0)) hgW2.out (j := 1)) hgW2.out (j := 2)) hgW2.out (j := 3)) hgW2.out (j := 4)) hgW2.out (j := 5)) hgW2.out (j := 6)) hgW2.out (j := 7))⟩
    ·rw [if_neg c8] at H
     exact absurd H (by simp)
   ·rw [if_neg c7] at H
    have c7b := decide_eq_false c7
    clear c7
    obtain rfl := Option.some.inj H
    by_cases hn : 1 ≤ x.f7.length
    ·have n0 : decide ((1 : Int) ≤ (x.f7.length : Int)) = true := decide_eq_true (by omega)
     have n1 : decide ((x.f7.length : Int) ≥ 1) = true := n0
     go_wp2
     go_ret
     exact ⟨by first | rfl | (rw [decide_eq_true hn]; rfl), HBr.out⟩
    ·have n0 : decide ((1 : Int) ≤ (x.f7.length : Int)) = false := decide_eq_false (by omega)
     have n1 : decide ((x.f7.length : Int) ≥ 1) = false := n0
     go_wp2
     go_ret
     exact ⟨by first | rfl | (rw [decide_eq_false hn]; rfl), HBr.out⟩
set_option maxHeartbeats 16000000 in
set_option maxRecDepth 100000 in
theorem rkids_17 (k : Nat) (x : S24) (A : Option Addr) (c : Nat) (r : Bool) (w : World) (hC : Kd.C k24 w A x.f7.length x.f7) (hc : x.f7.length ≤ c) (h : knL k 2 x.f7 0 (some (decide (2 ≤ x.f7.length))) = some r) :
  Calls Tryz.prog 29 #[.agg #[.int .i64 17, .string x.f1, .int .i64 x.f2, .int .i64 x.f3, .int .i64 x.f4, .int .i64 x.f5, .string x.f6, .slice A x.f7.length c]] w fun e w' => e = .returned (.bool r) ∧ Below w.heap.size w w' := by
 have HC := Aside0.mk hC
 have Hc := Aside0.mk hc
 have H := Aside0.mk h
 clear hC hc h
 go_enter Tryz.func29, Tryz.ntmps29
 go_wp2_with (first | ((with_reducible refine gate_dst (N := 1) rfl ?_); refine box_event ?hg (N := 1) ?hd (cs := #[.int .i64 17, .string x.f1, .int .i64 x.f2, .int .i64 x.f3, .int .i64 x.f4, .int .i64 x.f5, .string x.f6, .slice A x.f7.length c]) (t := 24) ?hr ?_; (case hd => rfl); (case hg => rfl); (case hr => first | (go_simp; done) | (go_simp; rfl)); intro gx hg w1 hbox hb; have HB1 := Aside0.mk hb; have HX1 := Aside0.mk hbox; obtain ⟨hq0, hqf0, hq1, hqf1, hq2, hqf2, hq3, hqf3, hq4, hqf4, hq5, hqf5, hq6, hqf6, hq7, hqf7⟩ := cells8 hbox; clear hbox hb hg))
 go_loopg [154] k (fun kq v154 w' => ∃ (i : Int), v154 = .int .i64 i ∧ Aside0 (knL kq 2 x.f7 i (some (decide (2 ≤ x.f7.length))) = some r) ∧ Aside0 (kq ≤ k) ∧ Aside0 (Below w.heap.size w w') ∧ Aside0 (w'.heap[gx]? = some (.cells #[.int .i64 17, .string x.f1, .int .i64 x.f2, .int .i64 x.f3, .int .i64 x.f4, .int .i64 x.f5, .string x.f6, .slice A x.f7.length c] 24 (0, 0))))
 case atStart => exact ⟨0, rfl, H, ⟨Nat.le_refl _⟩, HB1, HX1⟩
 case round =>
  clear H HB1 HX1
  clear hq0 hqf0 hq1 hqf1 hq2 hqf2 hq3 hqf3 hq4 hqf4 hq5 hqf5 hq6 hqf6 hq7 hqf7
  obtain ⟨i, rfl, HA, HK, HBr, HXr⟩ := hrel
  obtain ⟨hq0, hqf0, hq1, hqf1, hq2, hqf2, hq3, hqf3, hq4, hqf4, hq5, hqf5, hq6, hqf6, hq7, hqf7⟩ := cells8 HXr.out
  cases gk with
  | zero => exact absurd HA.out (by simp [knL])
  | succ k1 =>
   have H := HA.out
   clear HA
   simp only [knL] at H
   by_cases c7 : i < (x.f7.length : Int)
   ·rw [if_pos c7] at H
    by_cases c8 : 0 ≤ i
    ·rw [if_pos c8] at H
     obtain ⟨ad, A7, c77, e, hx0, hx1, hx2, hx3, hx4, hx5, hx6, hx7, hl7, hi7⟩ := at_T24 HC.out i c8 c7
     cases e
     replace hx0 := (HBr.out.cell (World.block_lt_of_cell? w _ hx0)).trans hx0
     replace hx1 := (HBr.out.cell (World.block_lt_of_cell? w _ hx1)).trans hx1
     replace hx2 := (HBr.out.cell (World.block_lt_of_cell? w _ hx2)).trans hx2
     replace hx3 := (HBr.out.cell (World.block_lt_of_cell? w _ hx3)).trans hx3
     replace hx4 := (HBr.out.cell (World.block_lt_of_cell? w _ hx4)).trans hx4
     replace hx5 := (HBr.out.cell (World.block_lt_of_cell? w _ hx5)).trans hx5
     replace hx6 := (HBr.out.cell (World.block_lt_of_cell? w _ hx6)).trans hx6
     replace hx7 := (HBr.out.cell (World.block_lt_of_cell? w _ hx7)).trans hx7
     clear hl7 hi7
     have c7b := decide_eq_true c7
     have c8b := decide_eq_true c8
     replace c7 := eq_true c7
     replace c8 := eq_true c8
     obtain ⟨y, hy⟩ : ∃ y, rd_T24 x.f7 i = y := ⟨_, rfl⟩
     rw [hy] at H hx0 hx1 hx2 hx3 hx4 hx5 hx6 hx7
     clear hy
     rw [if_neg (by decide)] at H
     by_cases hi : i < 2
     ·have d0 : decide (i < 2) = true := decide_eq_true hi
      have d1 : decide (i ≥ 2) = false := decide_eq_false (by omega)
      have d2 : decide (2 ≤ i) = false := decide_eq_false (by omega)
      rw [if_pos hi] at H
      clear hi
      by_cases hk : y.f0 = 18
      ·have k0 : (y.f0 == 18) = true := beq_iff_eq.mpr hk
       have k1_ : (y.f0 != 18) = false := bne_eq_false_iff_eq.mpr hk
       rw [if_pos hk] at H
       have H := Aside0.mk H
       clear hk
       go_wp2_with (first | ((with_reducible refine gate_dst (N := 13) rfl ?_); refine box_event ?hg (N := 13) ?hd (cs := #[.int .i64 0, .string (⟨#[]⟩ : ByteArray), .int .i64 0, .int .i64 0, .int .i64 0, .int .i64 0, .string (⟨#[]⟩ : ByteArray), .slice none 0 0]) (t := 24) ?hr ?_; (case hd => rfl); (case hg => rfl); (case hr => first | (go_simp; done) | (go_simp; rfl)); intro g2 hg w3 hbox hb; have HB3 := Aside0.mk (below_step HBr.out hb); have HX3 := Aside0.mk (blk_below HXr.out hb); have hgW2 := Aside0.mk (show w.heap.size ≤ g2 by rw [hg]; exact HBr.out.size); have hne : gx ≠ g2 := (fun e => by subst e; exact absurd (blk_lt HXr.out) (by omega)); have HK3 := Aside0.mk hbox; have hp0 := pw_cell_below hb hq0; have hp1 := pw_cell_below hb hq1; have hp2 := pw_cell_below hb hq2; have hp3 := pw_cell_below hb hq3; have hp4 := pw_cell_below hb hq4; have hp5 := pw_cell_below hb hq5; have hp6 := pw_cell_below hb hq6; have hp7 := pw_cell_below hb hq7; obtain ⟨hz0, hzf0, hz1, hzf1, hz2, hzf2, hz3, hzf3, hz4, hzf4, hz5, hzf5, hz6, hzf6, hz7, hzf7⟩ := cells8 hbox; clear hbox hb hg))
       go_roundg k1
       case measure => have := HK.out; omega
       case rel => exact ⟨wrap64 (i + 1), rfl, H, ⟨by have := HK.out; omega⟩, ⟨(below_set (below_set (below_set (below_set (below_set (below_set (below_set (below_set HB3.out hgW2.out (j := 0)) hgW2.out (j := 1)) hgW2.out (j := 2)) hgW2.out (j := 3)) hgW2.out (j := 4)) hgW2.out (j := 5)) hgW2.out (j := 6)) hgW2.out (j := 7))⟩, ⟨(blk_far (p := ⟨g2, 7, none⟩) (blk_far (p := ⟨g2, 6, none⟩) (blk_far (p := ⟨g2, 5, none⟩) (blk_far (p := ⟨g2, 4, none⟩) (blk_far (p := ⟨g2, 3, none⟩) (blk_far (p := ⟨g2, 2, none⟩) (blk_far (p := ⟨g2, 1, none⟩) (blk_far (p := ⟨g2, 0, none⟩) HX3.out hne _) hne _) hne _) hne _) hne _) hne _) hne _) hne _)⟩⟩
      ·have k0 : (y.f0 == 18) = false := beq_eq_false_iff_ne.mpr hk
       have k1_ : (y.f0 != 18) = true := bne_iff_ne.mpr hk
       rw [if_neg hk] at H
       clear hk
       obtain rfl := Option.some.inj H
       go_wp2_with (first | ((with_reducible refine gate_dst (N := 13) rfl ?_); refine box_event ?hg (N := 13) ?hd (cs := #[.int .i64 0, .string (⟨#[]⟩ : ByteArray), .int .i64 0, .int .i64 0, .int .i64 0, .int .i64 0, .string (⟨#[]⟩ : ByteArray), .slice none 0 0]) (t := 24) ?hr ?_; (case hd => rfl); (case hg => rfl); (case hr => first | (go_simp; done) | (go_simp; rfl)); intro g2 hg w3 hbox hb; have HB3 := Aside0.mk (below_step HBr.out hb); have HX3 := Aside0.mk (blk_below HXr.out hb); have hgW2 := Aside0.mk (show w.heap.size ≤ g2 by rw [hg]; exact HBr.out.size); have hne : gx ≠ g2 := (fun e => by subst e; exact absurd (blk_lt HXr.out) (by omega)); have HK3 := Aside0.mk hbox; have hp0 := pw_cell_below hb hq0; have hp1 := pw_cell_below hb hq1; have hp2 := pw_cell_below hb hq2; have hp3 := pw_cell_below hb hq3; have hp4 := pw_cell_below hb hq4; have hp5 := pw_cell_below hb hq5; have hp6 := pw_cell_below hb hq6; have hp7 := pw_cell_below hb hq7; obtain ⟨hz0, hzf0, hz1, hzf1, hz2, hzf2, hz3, hzf3, hz4, hzf4, hz5, hzf5, hz6, hzf6, hz7, hzf7⟩ := cells8 hbox; clear hbox hb hg))
       go_ret
       exact ⟨rfl, (below_set (below_set (below_set (below_set (below_set (below_set (below_set (below_set HB3.out hgW2.out (j := 0)) hgW2.out (j := 1)) hgW2.out (j := 2)) hgW2.out (j := 3)) hgW2.out (j := 4)) hgW2.out (j := 5)) hgW2.out (j := 6)) hgW2.out (j := 7))⟩
     ·have d0 : decide (i < 2) = false := decide_eq_false hi
      have d1 : decide (i ≥ 2) = true := decide_eq_true (by omega)
      have d2 : decide (2 ≤ i) = true := decide_eq_true (by omega)
      rw [if_neg hi] at H
      clear hi
      by_cases hk : y.f0 = 4
      ·have k0 : (y.f0 == 4) = true := beq_iff_eq.mpr hk
       have k1_ : (y.f0 != 4) = false := bne_eq_false_iff_eq.mpr hk
       rw [if_pos hk] at H
       have H := Aside0.mk H
       clear hk
       go_wp2_with (first | ((with_reducible refine gate_dst (N := 13) rfl ?_); refine box_event ?hg (N := 13) ?hd (cs := #[.int .i64 0, .string (⟨#[]⟩ : ByteArray), .int .i64 0, .int .i64 0, .int .i64 0, .int .i64 0, .string (⟨#[]⟩ : ByteArray), .slice none 0 0]) (t := 24) ?hr ?_; (case hd => rfl); (case hg => rfl); (case hr => first | (go_simp; done) | (go_simp; rfl)); intro g2 hg w3 hbox hb; have HB3 := Aside0.mk (below_step HBr.out hb); have HX3 := Aside0.mk (blk_below HXr.out hb); have hgW2 := Aside0.mk (show w.heap.size ≤ g2 by rw [hg]; exact HBr.out.size); have hne : gx ≠ g2 := (fun e => by subst e; exact absurd (blk_lt HXr.out) (by omega)); have HK3 := Aside0.mk hbox; have hp0 := pw_cell_below hb hq0; have hp1 := pw_cell_below hb hq1; have hp2 := pw_cell_below hb hq2; have hp3 := pw_cell_below hb hq3; have hp4 := pw_cell_below hb hq4; have hp5 := pw_cell_below hb hq5; have hp6 := pw_cell_below hb hq6; have hp7 := pw_cell_below hb hq7; obtain ⟨hz0, hzf0, hz1, hzf1, hz2, hzf2, hz3, hzf3, hz4, hzf4, hz5, hzf5, hz6, hzf6, hz7, hzf7⟩ := cells8 hbox; clear hbox hb hg))
       go_roundg k1
       case measure => have := HK.out; omega
       case rel => exact ⟨wrap64 (i + 1), rfl, H, ⟨by have := HK.out; omega⟩, ⟨(below_set (below_set (below_set (below_set (below_set (below_set (below_set (below_set HB3.out hgW2.out (j := 0)) hgW2.out (j := 1)) hgW2.out (j := 2)) hgW2.out (j := 3)) hgW2.out (j := 4)) hgW2.out (j := 5)) hgW2.out (j := 6)) hgW2.out (j := 7))⟩, ⟨(blk_far (p := ⟨g2, 7, none⟩) (blk_far (p := ⟨g2, 6, none⟩) (blk_far (p := ⟨g2, 5, none⟩) (blk_far (p := ⟨g2, 4, none⟩) (blk_far (p := ⟨g2, 3, none⟩) (blk_far (p := ⟨g2, 2, none⟩) (blk_far (p := ⟨g2, 1, none⟩) (blk_far (p := ⟨g2, 0, none⟩) HX3.out hne _) hne _) hne _) hne _) hne _) hne _) hne _) hne _)⟩⟩
      ·have k0 : (y.f0 == 4) = false := beq_eq_false_iff_ne.mpr hk
       have k1_ : (y.f0 != 4) = true := bne_iff_ne.mpr hk
       rw [if_neg hk] at H
       clear hk
       obtain rfl := Option.some.inj H
       go_wp2_with (first | ((with_reducible refine gate_dst (N := 13) rfl ?_); refine box_event ?hg (N := 13) ?hd (cs := #[.int .i64 0, .string (⟨#[]⟩ : ByteArray), .int .i64 0, .int .i64 0, .int .i64 0, .int .i64 0, .string (⟨#[]⟩ : ByteArray), .slice none 0 0]) (t := 24) ?hr ?_; (case hd => rfl); (case hg => rfl); (case hr => first | (go_simp; done) | (go_simp; rfl)); intro g2 hg w3 hbox hb; have HB3 := Aside0.mk (below_step HBr.out hb); have HX3 := Aside0.mk (blk_below HXr.out hb); have hgW2 := Aside0.mk (show w.heap.size ≤ g2 by rw [hg]; exact HBr.out.size); have hne : gx ≠ g2 := (fun e => by subst e; exact absurd (blk_lt HXr.out) (by omega)); have HK3 := Aside0.mk hbox; have hp0 := pw_cell_below hb hq0; have hp1 := pw_cell_below hb hq1; have hp2 := pw_cell_below hb hq2; have hp3 := pw_cell_below hb hq3; have hp4 := pw_cell_below hb hq4; have hp5 := pw_cell_below hb hq5; have hp6 := pw_cell_below hb hq6; have hp7 := pw_cell_below hb hq7; obtain ⟨hz0, hzf0, hz1, hzf1, hz2, hzf2, hz3, hzf3, hz4, hzf4, hz5, hzf5, hz6, hzf6, hz7, hzf7⟩ := cells8 hbox; clear hbox hb hg))
       go_ret
       exact ⟨rfl, (below_set (below_set (below_set (below_set (below_set (below_set (below_set (below_set HB3.out hgW2.out (j := 0)) hgW2.out (j := 1)) hgW2.out (j := 2)) hgW2.out (j := 3)) hgW2.out (j := 4)) hgW2.out (j := 5)) hgW2.out (j := 6)) hgW2.out (j := 7))⟩
    ·rw [if_neg c8] at H
     exact absurd H (by simp)
   ·rw [if_neg c7] at H
    have c7b := decide_eq_false c7
    clear c7
    obtain rfl := Option.some.inj H
    by_cases hn : 2 ≤ x.f7.length
    ·have n0 : decide ((2 : Int) ≤ (x.f7.length : Int)) = true := decide_eq_true (by omega)
     have n1 : decide ((x.f7.length : Int) ≥ 2) = true := n0
     go_wp2
     go_ret
     exact ⟨by first | rfl | (rw [decide_eq_true hn]; rfl), HBr.out⟩
    ·have n0 : decide ((2 : Int) ≤ (x.f7.length : Int)) = false := decide_eq_false (by omega)
     have n1 : decide ((x.f7.length : Int) ≥ 2) = false := n0
     go_wp2
     go_ret
     exact ⟨by first | rfl | (rw [decide_eq_false hn]; rfl), HBr.out⟩
set_option maxHeartbeats 16000000 in
set_option maxRecDepth 100000 in
theorem rkids_10 (k : Nat) (x : S24) (A : Option Addr) (c : Nat) (r : Bool) (w : World) (hC : Kd.C k24 w A x.f7.length x.f7) (hc : x.f7.length ≤ c) (h : knL k 2 x.f7 0 (rword k x.f7) = some r) :
  Calls Tryz.prog 29 #[.agg #[.int .i64 10, .string x.f1, .int .i64 x.f2, .int .i64 x.f3, .int .i64 x.f4, .int .i64 x.f5, .string x.f6, .slice A x.f7.length c]] w fun e w' => e = .returned (.bool r) ∧ Below w.heap.size w w' := by
 have HC := Aside0.mk hC
 have Hc := Aside0.mk hc
 have H := Aside0.mk h
 clear hC hc h
 go_enter Tryz.func29, Tryz.ntmps29
 go_wp2_with (first | ((with_reducible refine gate_dst (N := 1) rfl ?_); refine box_event ?hg (N := 1) ?hd (cs := #[.int .i64 10, .string x.f1, .int .i64 x.f2, .int .i64 x.f3, .int .i64 x.f4, .int .i64 x.f5, .string x.f6, .slice A x.f7.length c]) (t := 24) ?hr ?_; (case hd => rfl); (case hg => rfl); (case hr => first | (go_simp; done) | (go_simp; rfl)); intro gx hg w1 hbox hb; have HB1 := Aside0.mk hb; have HX1 := Aside0.mk hbox; obtain ⟨hq0, hqf0, hq1, hqf1, hq2, hqf2, hq3, hqf3, hq4, hqf4, hq5, hqf5, hq6, hqf6, hq7, hqf7⟩ := cells8 hbox; clear hbox hb hg))
 go_loopg [154] k (fun kq v154 w' => ∃ (i : Int), v154 = .int .i64 i ∧ Aside0 (knL kq 2 x.f7 i (rword k x.f7) = some r) ∧ Aside0 (kq ≤ k) ∧ Aside0 (Below w.heap.size w w') ∧ Aside0 (w'.heap[gx]? = some (.cells #[.int .i64 10, .string x.f1, .int .i64 x.f2, .int .i64 x.f3, .int .i64 x.f4, .int .i64 x.f5, .string x.f6, .slice A x.f7.length c] 24 (0, 0))))
 case atStart => exact ⟨0, rfl, H, ⟨Nat.le_refl _⟩, HB1, HX1⟩
 case round =>
  clear H HB1 HX1
  clear hq0 hqf0 hq1 hqf1 hq2 hqf2 hq3 hqf3 hq4 hqf4 hq5 hqf5 hq6 hqf6 hq7 hqf7
  obtain ⟨i, rfl, HA, HK, HBr, HXr⟩ := hrel
  obtain ⟨hq0, hqf0, hq1, hqf1, hq2, hqf2, hq3, hqf3, hq4, hqf4, hq5, hqf5, hq6, hqf6, hq7, hqf7⟩ := cells8 HXr.out
  cases gk with
  | zero => exact absurd HA.out (by simp [knL])
  | succ k1 =>
   have H := HA.out
   clear HA
   simp only [knL] at H
   by_cases c7 : i < (x.f7.length : Int)
   ·rw [if_pos c7] at H
    by_cases c8 : 0 ≤ i
    ·rw [if_pos c8] at H
     obtain ⟨ad, A7, c77, e, hx0, hx1, hx2, hx3, hx4, hx5, hx6, hx7, hl7, hi7⟩ := at_T24 HC.out i c8 c7
     cases e
     replace hx0 := (HBr.out.cell (World.block_lt_of_cell? w _ hx0)).trans hx0
     replace hx1 := (HBr.out.cell (World.block_lt_of_cell? w _ hx1)).trans hx1
     replace hx2 := (HBr.out.cell (World.block_lt_of_cell? w _ hx2)).trans hx2
     replace hx3 := (HBr.out.cell (World.block_lt_of_cell? w _ hx3)).trans hx3
     replace hx4 := (HBr.out.cell (World.block_lt_of_cell? w _ hx4)).trans hx4
     replace hx5 := (HBr.out.cell (World.block_lt_of_cell? w _ hx5)).trans hx5
     replace hx6 := (HBr.out.cell (World.block_lt_of_cell? w _ hx6)).trans hx6
     replace hx7 := (HBr.out.cell (World.block_lt_of_cell? w _ hx7)).trans hx7
     clear hl7 hi7
     have c7b := decide_eq_true c7
     have c8b := decide_eq_true c8
     replace c7 := eq_true c7
     replace c8 := eq_true c8
     obtain ⟨y, hy⟩ : ∃ y, rd_T24 x.f7 i = y := ⟨_, rfl⟩
     rw [hy] at H hx0 hx1 hx2 hx3 hx4 hx5 hx6 hx7
     clear hy
     rw [if_neg (by decide)] at H
     by_cases hi : i < 2
     ·have d0 : decide (i < 2) = true := decide_eq_true hi
      have d1 : decide (i ≥ 2) = false := decide_eq_false (by omega)
      have d2 : decide (2 ≤ i) = false := decide_eq_false (by omega)
      rw [if_pos hi] at H
      clear hi
      by_cases hk : y.f0 = 18
      ·have k0 : (y.f0 == 18) = true := beq_iff_eq.mpr hk
       have k1_ : (y.f0 != 18) = false := bne_eq_false_iff_eq.mpr hk
       rw [if_pos hk] at H
       have H := Aside0.mk H
       clear hk
       go_wp2_with (first | ((with_reducible refine gate_dst (N := 13) rfl ?_); refine box_event ?hg (N := 13) ?hd (cs := #[.int .i64 0, .string (⟨#[]⟩ : ByteArray), .int .i64 0, .int .i64 0, .int .i64 0, .int .i64 0, .string (⟨#[]⟩ : ByteArray), .slice none 0 0]) (t := 24) ?hr ?_; (case hd => rfl); (case hg => rfl); (case hr => first | (go_simp; done) | (go_simp; rfl)); intro g2 hg w3 hbox hb; have HB3 := Aside0.mk (below_step HBr.out hb); have HX3 := Aside0.mk (blk_below HXr.out hb); have hgW2 := Aside0.mk (show w.heap.size ≤ g2 by rw [hg]; exact HBr.out.size); have hne : gx ≠ g2 := (fun e => by subst e; exact absurd (blk_lt HXr.out) (by omega)); have HK3 := Aside0.mk hbox; have hp0 := pw_cell_below hb hq0; have hp1 := pw_cell_below hb hq1; have hp2 := pw_cell_below hb hq2; have hp3 := pw_cell_below hb hq3; have hp4 := pw_cell_below hb hq4; have hp5 := pw_cell_below hb hq5; have hp6 := pw_cell_below hb hq6; have hp7 := pw_cell_below hb hq7; obtain ⟨hz0, hzf0, hz1, hzf1, hz2, hzf2, hz3, hzf3, hz4, hzf4, hz5, hzf5, hz6, hzf6, hz7, hzf7⟩ := cells8 hbox; clear hbox hb hg))
       go_roundg k1
       case measure => have := HK.out; omega
       case rel => exact ⟨wrap64 (i + 1), rfl, H, ⟨by have := HK.out; omega⟩, ⟨(below_set (below_set (below_set (below_set (below_set (below_set (below_set (below_set HB3.out hgW2.out (j := 0)) hgW2.out (j := 1)) hgW2.out (j := 2)) hgW2.out (j := 3)) hgW2.out (j := 4)) hgW2.out (j := 5)) hgW2.out (j := 6)) hgW2.out (j := 7))⟩, ⟨(blk_far (p := ⟨g2, 7, none⟩) (blk_far (p := ⟨g2, 6, none⟩) (blk_far (p := ⟨g2, 5, none⟩) (blk_far (p := ⟨g2, 4, none⟩) (blk_far (p := ⟨g2, 3, none⟩) (blk_far (p := ⟨g2, 2, none⟩) (blk_far (p := ⟨g2, 1, none⟩) (blk_far (p := ⟨g2, 0, none⟩) HX3.out hne _) hne _) hne _) hne _) hne _) hne _) hne _) hne _)⟩⟩
      ·have k0 : (y.f0 == 18) = false := beq_eq_false_iff_ne.mpr hk
       have k1_ : (y.f0 != 18) = true := bne_iff_ne.mpr hk
       rw [if_neg hk] at H
       clear hk
       obtain rfl := Option.some.inj H
       go_wp2_with (first | ((with_reducible refine gate_dst (N := 13) rfl ?_); refine box_event ?hg (N := 13) ?hd (cs := #[.int .i64 0, .string (⟨#[]⟩ : ByteArray), .int .i64 0, .int .i64 0, .int .i64 0, .int .i64 0, .string (⟨#[]⟩ : ByteArray), .slice none 0 0]) (t := 24) ?hr ?_; (case hd => rfl); (case hg => rfl); (case hr => first | (go_simp; done) | (go_simp; rfl)); intro g2 hg w3 hbox hb; have HB3 := Aside0.mk (below_step HBr.out hb); have HX3 := Aside0.mk (blk_below HXr.out hb); have hgW2 := Aside0.mk (show w.heap.size ≤ g2 by rw [hg]; exact HBr.out.size); have hne : gx ≠ g2 := (fun e => by subst e; exact absurd (blk_lt HXr.out) (by omega)); have HK3 := Aside0.mk hbox; have hp0 := pw_cell_below hb hq0; have hp1 := pw_cell_below hb hq1; have hp2 := pw_cell_below hb hq2; have hp3 := pw_cell_below hb hq3; have hp4 := pw_cell_below hb hq4; have hp5 := pw_cell_below hb hq5; have hp6 := pw_cell_below hb hq6; have hp7 := pw_cell_below hb hq7; obtain ⟨hz0, hzf0, hz1, hzf1, hz2, hzf2, hz3, hzf3, hz4, hzf4, hz5, hzf5, hz6, hzf6, hz7, hzf7⟩ := cells8 hbox; clear hbox hb hg))
       go_ret
       exact ⟨rfl, (below_set (below_set (below_set (below_set (below_set (below_set (below_set (below_set HB3.out hgW2.out (j := 0)) hgW2.out (j := 1)) hgW2.out (j := 2)) hgW2.out (j := 3)) hgW2.out (j := 4)) hgW2.out (j := 5)) hgW2.out (j := 6)) hgW2.out (j := 7))⟩
     ·have d0 : decide (i < 2) = false := decide_eq_false hi
      have d1 : decide (i ≥ 2) = true := decide_eq_true (by omega)
      have d2 : decide (2 ≤ i) = true := decide_eq_true (by omega)
      rw [if_neg hi] at H
      clear hi
      by_cases hk : y.f0 = 4
      ·have k0 : (y.f0 == 4) = true := beq_iff_eq.mpr hk
       have k1_ : (y.f0 != 4) = false := bne_eq_false_iff_eq.mpr hk
       rw [if_pos hk] at H
       have H := Aside0.mk H
       clear hk
       go_wp2_with (first | ((with_reducible refine gate_dst (N := 13) rfl ?_); refine box_event ?hg (N := 13) ?hd (cs := #[.int .i64 0, .string (⟨#[]⟩ : ByteArray), .int .i64 0, .int .i64 0, .int .i64 0, .int .i64 0, .string (⟨#[]⟩ : ByteArray), .slice none 0 0]) (t := 24) ?hr ?_; (case hd => rfl); (case hg => rfl); (case hr => first | (go_simp; done) | (go_simp; rfl)); intro g2 hg w3 hbox hb; have HB3 := Aside0.mk (below_step HBr.out hb); have HX3 := Aside0.mk (blk_below HXr.out hb); have hgW2 := Aside0.mk (show w.heap.size ≤ g2 by rw [hg]; exact HBr.out.size); have hne : gx ≠ g2 := (fun e => by subst e; exact absurd (blk_lt HXr.out) (by omega)); have HK3 := Aside0.mk hbox; have hp0 := pw_cell_below hb hq0; have hp1 := pw_cell_below hb hq1; have hp2 := pw_cell_below hb hq2; have hp3 := pw_cell_below hb hq3; have hp4 := pw_cell_below hb hq4; have hp5 := pw_cell_below hb hq5; have hp6 := pw_cell_below hb hq6; have hp7 := pw_cell_below hb hq7; obtain ⟨hz0, hzf0, hz1, hzf1, hz2, hzf2, hz3, hzf3, hz4, hzf4, hz5, hzf5, hz6, hzf6, hz7, hzf7⟩ := cells8 hbox; clear hbox hb hg))
       go_roundg k1
       case measure => have := HK.out; omega
       case rel => exact ⟨wrap64 (i + 1), rfl, H, ⟨by have := HK.out; omega⟩, ⟨(below_set (below_set (below_set (below_set (below_set (below_set (below_set (below_set HB3.out hgW2.out (j := 0)) hgW2.out (j := 1)) hgW2.out (j := 2)) hgW2.out (j := 3)) hgW2.out (j := 4)) hgW2.out (j := 5)) hgW2.out (j := 6)) hgW2.out (j := 7))⟩, ⟨(blk_far (p := ⟨g2, 7, none⟩) (blk_far (p := ⟨g2, 6, none⟩) (blk_far (p := ⟨g2, 5, none⟩) (blk_far (p := ⟨g2, 4, none⟩) (blk_far (p := ⟨g2, 3, none⟩) (blk_far (p := ⟨g2, 2, none⟩) (blk_far (p := ⟨g2, 1, none⟩) (blk_far (p := ⟨g2, 0, none⟩) HX3.out hne _) hne _) hne _) hne _) hne _) hne _) hne _) hne _)⟩⟩
      ·have k0 : (y.f0 == 4) = false := beq_eq_false_iff_ne.mpr hk
       have k1_ : (y.f0 != 4) = true := bne_iff_ne.mpr hk
       rw [if_neg hk] at H
       clear hk
       obtain rfl := Option.some.inj H
       go_wp2_with (first | ((with_reducible refine gate_dst (N := 13) rfl ?_); refine box_event ?hg (N := 13) ?hd (cs := #[.int .i64 0, .string (⟨#[]⟩ : ByteArray), .int .i64 0, .int .i64 0, .int .i64 0, .int .i64 0, .string (⟨#[]⟩ : ByteArray), .slice none 0 0]) (t := 24) ?hr ?_; (case hd => rfl); (case hg => rfl); (case hr => first | (go_simp; done) | (go_simp; rfl)); intro g2 hg w3 hbox hb; have HB3 := Aside0.mk (below_step HBr.out hb); have HX3 := Aside0.mk (blk_below HXr.out hb); have hgW2 := Aside0.mk (show w.heap.size ≤ g2 by rw [hg]; exact HBr.out.size); have hne : gx ≠ g2 := (fun e => by subst e; exact absurd (blk_lt HXr.out) (by omega)); have HK3 := Aside0.mk hbox; have hp0 := pw_cell_below hb hq0; have hp1 := pw_cell_below hb hq1; have hp2 := pw_cell_below hb hq2; have hp3 := pw_cell_below hb hq3; have hp4 := pw_cell_below hb hq4; have hp5 := pw_cell_below hb hq5; have hp6 := pw_cell_below hb hq6; have hp7 := pw_cell_below hb hq7; obtain ⟨hz0, hzf0, hz1, hzf1, hz2, hzf2, hz3, hzf3, hz4, hzf4, hz5, hzf5, hz6, hzf6, hz7, hzf7⟩ := cells8 hbox; clear hbox hb hg))
       go_ret
       exact ⟨rfl, (below_set (below_set (below_set (below_set (below_set (below_set (below_set (below_set HB3.out hgW2.out (j := 0)) hgW2.out (j := 1)) hgW2.out (j := 2)) hgW2.out (j := 3)) hgW2.out (j := 4)) hgW2.out (j := 5)) hgW2.out (j := 6)) hgW2.out (j := 7))⟩
    ·rw [if_neg c8] at H
     exact absurd H (by simp)
   ·rw [if_neg c7] at H
    have c7b := decide_eq_false c7
    clear c7
    unfold rword at H
    by_cases hn : 2 ≤ x.f7.length
    ·rw [if_pos hn] at H
     have n0 : decide ((2 : Int) ≤ (x.f7.length : Int)) = true := decide_eq_true (by omega)
     have n1 : decide ((x.f7.length : Int) ≥ 2) = true := n0
     obtain ⟨ad, A7, c77, e, hx0, hx1, hx2, hx3, hx4, hx5, hx6, hx7, hl7, hi7⟩ := at_T24 HC.out 0 (by omega) (by omega)
     cases e
     obtain ⟨y, hy⟩ : ∃ y, rd_T24 x.f7 0 = y := ⟨_, rfl⟩
     have had : ad.add 0 = ad := by simp [Addr.add]
     rw [hy] at hx1 H
     simp only [Int.toNat_zero, Nat.zero_mul, had] at hx1
     have hn0 : 0 < x.f7.length := by omega
     have hn0b : decide (0 < x.f7.length) = true := decide_eq_true hn0
     replace hx1 := (HBr.out.cell (World.block_lt_of_cell? w _ hx1)).trans hx1
     obtain ⟨v, hv, H⟩ := Option.map_eq_some_iff.mp H
     subst H
     have H := Aside0.mk hv
     clear hv hy hn hx0 hx2 hx3 hx4 hx5 hx6 hx7 hl7 hi7 had
     go_wp2_with (fail)
     refine (glossaryref05_Word.calls k y.f1 v _ H.out).mono ?_
     rintro e w2 ⟨rfl, hb⟩
     have HB2 := Aside0.mk (below_step HBr.out hb)
     clear hb
     go_wp2
     go_ret
     exact ⟨rfl, HB2.out⟩
    ·rw [if_neg hn] at H
     obtain rfl := Option.some.inj H
     have n0 : decide ((2 : Int) ≤ (x.f7.length : Int)) = false := decide_eq_false (by omega)
     have n1 : decide ((x.f7.length : Int) ≥ 2) = false := n0
     clear hn
     go_wp2
     go_ret
     exact ⟨rfl, HBr.out⟩
set_option maxHeartbeats 16000000 in
set_option maxRecDepth 100000 in
theorem rkids_24 (k : Nat) (x : S24) (A : Option Addr) (c : Nat) (r : Bool) (w : World) (hC : Kd.C k24 w A x.f7.length x.f7) (hc : x.f7.length ≤ c) (h : rsole x.f7 = some r) :
  Calls Tryz.prog 29 #[.agg #[.int .i64 24, .string x.f1, .int .i64 x.f2, .int .i64 x.f3, .int .i64 x.f4, .int .i64 x.f5, .string x.f6, .slice A x.f7.length c]] w fun e w' => e = .returned (.bool r) ∧ Below w.heap.size w w' := by
 have HC := Aside0.mk hC
 have Hc := Aside0.mk hc
 unfold rsole at h
 clear hC hc
 by_cases h1 : x.f7.length = 1
 ·rw [if_pos h1] at h
  have h1d : decide ((x.f7.length : Int) = 1) = true := decide_eq_true (by omega)
  have h1b : ((x.f7.length : Int) == 1) = true := by (rw [beq_iff_eq]; omega)
  obtain ⟨ad, A7, c77, e, hx0, hx1, hx2, hx3, hx4, hx5, hx6, hx7, hl7, hi7⟩ := at_T24 HC.out 0 (by omega) (by omega)
  cases e
  obtain ⟨y, hy⟩ : ∃ y, rd_T24 x.f7 0 = y := ⟨_, rfl⟩
  have had : ad.add 0 = ad := by simp [Addr.add]
  rw [hy] at hx0 h
  simp only [Int.toNat_zero, Nat.zero_mul, had] at hx0
  have hn0 : 0 < x.f7.length := by omega
  have hn0b : decide (0 < x.f7.length) = true := decide_eq_true hn0
  have H := Aside0.mk h
  clear h h1 hy hl7 hi7 had hx1 hx2 hx3 hx4 hx5 hx6 hx7
  go_enter Tryz.func29, Tryz.ntmps29
  go_wp2_with (first | ((with_reducible refine gate_dst (N := 1) rfl ?_); refine box_event ?hg (N := 1) ?hd (cs := #[.int .i64 24, .string x.f1, .int .i64 x.f2, .int .i64 x.f3, .int .i64 x.f4, .int .i64 x.f5, .string x.f6, .slice (some ad) x.f7.length c]) (t := 24) ?hr ?_; (case hd => rfl); (case hg => rfl); (case hr => first | (go_simp; done) | (go_simp; rfl)); intro gx hg w1 hbox hb; have HB1 := Aside0.mk hb; have HX1 := Aside0.mk hbox; replace hx0 := (hb.cell (World.block_lt_of_cell? w _ hx0)).trans hx0; obtain ⟨hq0, hqf0, hq1, hqf1, hq2, hqf2, hq3, hqf3, hq4, hqf4, hq5, hqf5, hq6, hqf6, hq7, hqf7⟩ := cells8 hbox; clear hbox hb hg))
  refine (glossaryref07_worth.calls y.f0 r _ H.out).mono ?_
  rintro e w2 ⟨rfl, hb⟩
  have HB2 := Aside0.mk (below_step HB1.out (drawn_below hb))
  clear hb
  go_wp2
  go_ret
  exact ⟨rfl, HB2.out⟩
 ·rw [if_neg h1] at h
  obtain rfl := Option.some.inj h
  have h1d : decide ((x.f7.length : Int) = 1) = false := decide_eq_false (by omega)
  have h1b : ((x.f7.length : Int) == 1) = false := by (rw [beq_eq_false_iff_ne]; omega)
  clear h h1
  go_enter Tryz.func29, Tryz.ntmps29
  go_wp2_with (first | ((with_reducible refine gate_dst (N := 1) rfl ?_); refine box_event ?hg (N := 1) ?hd (cs := #[.int .i64 24, .string x.f1, .int .i64 x.f2, .int .i64 x.f3, .int .i64 x.f4, .int .i64 x.f5, .string x.f6, .slice A x.f7.length c]) (t := 24) ?hr ?_; (case hd => rfl); (case hg => rfl); (case hr => first | (go_simp; done) | (go_simp; rfl)); intro gx hg w1 hbox hb; have HB1 := Aside0.mk hb; have HX1 := Aside0.mk hbox; obtain ⟨hq0, hqf0, hq1, hqf1, hq2, hqf2, hq3, hqf3, hq4, hqf4, hq5, hqf5, hq6, hqf6, hq7, hqf7⟩ := cells8 hbox; clear hbox hb hg))
  go_ret
  exact ⟨rfl, HB1.out⟩
set_option maxHeartbeats 16000000 in
set_option maxRecDepth 100000 in
theorem rkids_4 (k : Nat) (x : S24) (A : Option Addr) (c : Nat) (r : Bool) (w : World) (hC : Kd.C k24 w A x.f7.length x.f7) (hc : x.f7.length ≤ c) (h : optL k x.f7 0 = some r) :
  Calls Tryz.prog 29 #[.agg #[.int .i64 4, .string x.f1, .int .i64 x.f2, .int .i64 x.f3, .int .i64 x.f4, .int .i64 x.f5, .string x.f6, .slice A x.f7.length c]] w fun e w' => e = .returned (.bool r) ∧ Below w.heap.size w w' := by
 have HC := Aside0.mk hC
 have Hc := Aside0.mk hc
 have H := Aside0.mk h
 clear hC hc h
 go_enter Tryz.func29, Tryz.ntmps29
 go_wp2_with (first | ((with_reducible refine gate_dst (N := 1) rfl ?_); refine box_event ?hg (N := 1) ?hd (cs := #[.int .i64 4, .string x.f1, .int .i64 x.f2, .int .i64 x.f3, .int .i64 x.f4, .int .i64 x.f5, .string x.f6, .slice A x.f7.length c]) (t := 24) ?hr ?_; (case hd => rfl); (case hg => rfl); (case hr => first | (go_simp; done) | (go_simp; rfl)); intro gx hg w1 hbox hb; have HB1 := Aside0.mk hb; have HX1 := Aside0.mk hbox; obtain ⟨hq0, hqf0, hq1, hqf1, hq2, hqf2, hq3, hqf3, hq4, hqf4, hq5, hqf5, hq6, hqf6, hq7, hqf7⟩ := cells8 hbox; clear hbox hb hg))
 go_loopg [106] k (fun kq v106 w' => ∃ (i : Int), v106 = .int .i64 i ∧ Aside0 (optL kq x.f7 i = some r) ∧ Aside0 (kq ≤ k) ∧ Aside0 (Below w.heap.size w w') ∧ Aside0 (w'.heap[gx]? = some (.cells #[.int .i64 4, .string x.f1, .int .i64 x.f2, .int .i64 x.f3, .int .i64 x.f4, .int .i64 x.f5, .string x.f6, .slice A x.f7.length c] 24 (0, 0))))
 case atStart => exact ⟨0, rfl, H, ⟨Nat.le_refl _⟩, HB1, HX1⟩
 case round =>
  clear H HB1 HX1
  clear hq0 hqf0 hq1 hqf1 hq2 hqf2 hq3 hqf3 hq4 hqf4 hq5 hqf5 hq6 hqf6 hq7 hqf7
  obtain ⟨i, rfl, HA, HK, HBr, HXr⟩ := hrel
  obtain ⟨hq0, hqf0, hq1, hqf1, hq2, hqf2, hq3, hqf3, hq4, hqf4, hq5, hqf5, hq6, hqf6, hq7, hqf7⟩ := cells8 HXr.out
  cases gk with
  | zero => exact absurd HA.out (by simp [optL])
  | succ k1 =>
   have H := HA.out
   clear HA
   simp only [optL] at H
   by_cases c7 : i < (x.f7.length : Int)
   ·rw [if_pos c7] at H
    by_cases c8 : 0 ≤ i
    ·rw [if_pos c8] at H
     obtain ⟨ad, A7, c77, e, hx0, hx1, hx2, hx3, hx4, hx5, hx6, hx7, hl7, hi7⟩ := at_T24 HC.out i c8 c7
     cases e
     replace hx0 := (HBr.out.cell (World.block_lt_of_cell? w _ hx0)).trans hx0
     replace hx1 := (HBr.out.cell (World.block_lt_of_cell? w _ hx1)).trans hx1
     replace hx2 := (HBr.out.cell (World.block_lt_of_cell? w _ hx2)).trans hx2
     replace hx3 := (HBr.out.cell (World.block_lt_of_cell? w _ hx3)).trans hx3
     replace hx4 := (HBr.out.cell (World.block_lt_of_cell? w _ hx4)).trans hx4
     replace hx5 := (HBr.out.cell (World.block_lt_of_cell? w _ hx5)).trans hx5
     replace hx6 := (HBr.out.cell (World.block_lt_of_cell? w _ hx6)).trans hx6
     replace hx7 := (HBr.out.cell (World.block_lt_of_cell? w _ hx7)).trans hx7
     clear hl7 hi7
     have c7b := decide_eq_true c7
     have c8b := decide_eq_true c8
     replace c7 := eq_true c7
     replace c8 := eq_true c8
     obtain ⟨y, hy⟩ : ∃ y, rd_T24 x.f7 i = y := ⟨_, rfl⟩
     rw [hy] at H hx0 hx1 hx2 hx3 hx4 hx5 hx6 hx7
     clear hy
     by_cases hi : i < wrap64 ((x.f7.length : Int) - 1)
     ·have d0 : decide (i < wrap64 ((x.f7.length : Int) - 1)) = true := decide_eq_true hi
      rw [if_pos hi] at H
      clear hi
      by_cases hk : y.f0 = 19
      ·have k0 : (y.f0 == 19) = true := beq_iff_eq.mpr hk
       have k1_ : (y.f0 != 19) = false := bne_eq_false_iff_eq.mpr hk
       rw [if_pos hk] at H
       have H := Aside0.mk H
       clear hk
       go_wp2_with (first | ((with_reducible refine gate_dst (N := 11) rfl ?_); refine box_event ?hg (N := 11) ?hd (cs := #[.int .i64 0, .string (⟨#[]⟩ : ByteArray), .int .i64 0, .int .i64 0, .int .i64 0, .int .i64 0, .string (⟨#[]⟩ : ByteArray), .slice none 0 0]) (t := 24) ?hr ?_; (case hd => rfl); (case hg => rfl); (case hr => first | (go_simp; done) | (go_simp; rfl)); intro g2 hg w3 hbox hb; have HB3 := Aside0.mk (below_step HBr.out hb); have HX3 := Aside0.mk (blk_below HXr.out hb); have hgW2 := Aside0.mk (show w.heap.size ≤ g2 by rw [hg]; exact HBr.out.size); have hne : gx ≠ g2 := (fun e => by subst e; exact absurd (blk_lt HXr.out) (by omega)); have HK3 := Aside0.mk hbox; have hp0 := pw_cell_below hb hq0; have hp1 := pw_cell_below hb hq1; have hp2 := pw_cell_below hb hq2; have hp3 := pw_cell_below hb hq3; have hp4 := pw_cell_below hb hq4; have hp5 := pw_cell_below hb hq5; have hp6 := pw_cell_below hb hq6; have hp7 := pw_cell_below hb hq7; obtain ⟨hz0, hzf0, hz1, hzf1, hz2, hzf2, hz3, hzf3, hz4, hzf4, hz5, hzf5, hz6, hzf6, hz7, hzf7⟩ := cells8 hbox; clear hbox hb hg))
       go_roundg k1
       case measure => have := HK.out; omega
       case rel => exact ⟨wrap64 (i + 1), rfl, H, ⟨by have := HK.out; omega⟩, ⟨(below_set (below_set (below_set (below_set (below_set (below_set (below_set (below_set HB3.out hgW2.out (j := 0)) hgW2.out (j := 1)) hgW2.out (j := 2)) hgW2.out (j := 3)) hgW2.out (j := 4)) hgW2.out (j := 5)) hgW2.out (j := 6)) hgW2.out (j := 7))⟩, ⟨(blk_far (p := ⟨g2, 7, none⟩) (blk_far (p := ⟨g2, 6, none⟩) (blk_far (p := ⟨g2, 5, none⟩) (blk_far (p := ⟨g2, 4, none⟩) (blk_far (p := ⟨g2, 3, none⟩) (blk_far (p := ⟨g2, 2, none⟩) (blk_far (p := ⟨g2, 1, none⟩) (blk_far (p := ⟨g2, 0, none⟩) HX3.out hne _) hne _) hne _) hne _) hne _) hne _) hne _) hne _)⟩⟩
      ·have k0 : (y.f0 == 19) = false := beq_eq_false_iff_ne.mpr hk
       have k1_ : (y.f0 != 19) = true := bne_iff_ne.mpr hk
       rw [if_neg hk] at H
       clear hk
       obtain rfl := Option.some.inj H
       go_wp2_with (first | ((with_reducible refine gate_dst (N := 11) rfl ?_); refine box_event ?hg (N := 11) ?hd (cs := #[.int .i64 0, .string (⟨#[]⟩ : ByteArray), .int .i64 0, .int .i64 0, .int .i64 0, .int .i64 0, .string (⟨#[]⟩ : ByteArray), .slice none 0 0]) (t := 24) ?hr ?_; (case hd => rfl); (case hg => rfl); (case hr => first | (go_simp; done) | (go_simp; rfl)); intro g2 hg w3 hbox hb; have HB3 := Aside0.mk (below_step HBr.out hb); have HX3 := Aside0.mk (blk_below HXr.out hb); have hgW2 := Aside0.mk (show w.heap.size ≤ g2 by rw [hg]; exact HBr.out.size); have hne : gx ≠ g2 := (fun e => by subst e; exact absurd (blk_lt HXr.out) (by omega)); have HK3 := Aside0.mk hbox; have hp0 := pw_cell_below hb hq0; have hp1 := pw_cell_below hb hq1; have hp2 := pw_cell_below hb hq2; have hp3 := pw_cell_below hb hq3; have hp4 := pw_cell_below hb hq4; have hp5 := pw_cell_below hb hq5; have hp6 := pw_cell_below hb hq6; have hp7 := pw_cell_below hb hq7; obtain ⟨hz0, hzf0, hz1, hzf1, hz2, hzf2, hz3, hzf3, hz4, hzf4, hz5, hzf5, hz6, hzf6, hz7, hzf7⟩ := cells8 hbox; clear hbox hb hg))
       go_ret
       exact ⟨rfl, (below_set (below_set (below_set (below_set (below_set (below_set (below_set (below_set HB3.out hgW2.out (j := 0)) hgW2.out (j := 1)) hgW2.out (j := 2)) hgW2.out (j := 3)) hgW2.out (j := 4)) hgW2.out (j := 5)) hgW2.out (j := 6)) hgW2.out (j := 7))⟩
     ·have d0 : decide (i < wrap64 ((x.f7.length : Int) - 1)) = false := decide_eq_false hi
      rw [if_neg hi] at H
      have H := Aside0.mk H
      clear hi
      go_wp2_with (first | ((with_reducible refine gate_dst (N := 11) rfl ?_); refine box_event ?hg (N := 11) ?hd (cs := #[.int .i64 0, .string (⟨#[]⟩ : ByteArray), .int .i64 0, .int .i64 0, .int .i64 0, .int .i64 0, .string (⟨#[]⟩ : ByteArray), .slice none 0 0]) (t := 24) ?hr ?_; (case hd => rfl); (case hg => rfl); (case hr => first | (go_simp; done) | (go_simp; rfl)); intro g2 hg w3 hbox hb; have HB3 := Aside0.mk (below_step HBr.out hb); have HX3 := Aside0.mk (blk_below HXr.out hb); have hgW2 := Aside0.mk (show w.heap.size ≤ g2 by rw [hg]; exact HBr.out.size); have hne : gx ≠ g2 := (fun e => by subst e; exact absurd (blk_lt HXr.out) (by omega)); have HK3 := Aside0.mk hbox; have hp0 := pw_cell_below hb hq0; have hp1 := pw_cell_below hb hq1; have hp2 := pw_cell_below hb hq2; have hp3 := pw_cell_below hb hq3; have hp4 := pw_cell_below hb hq4; have hp5 := pw_cell_below hb hq5; have hp6 := pw_cell_below hb hq6; have hp7 := pw_cell_below hb hq7; obtain ⟨hz0, hzf0, hz1, hzf1, hz2, hzf2, hz3, hzf3, hz4, hzf4, hz5, hzf5, hz6, hzf6, hz7, hzf7⟩ := cells8 hbox; clear hbox hb hg))
      go_roundg k1
      case measure => have := HK.out; omega
      case rel => exact ⟨wrap64 (i + 1), rfl, H, ⟨by have := HK.out; omega⟩, ⟨(below_set (below_set (below_set (below_set (below_set (below_set (below_set (below_set HB3.out hgW2.out (j := 0)) hgW2.out (j := 1)) hgW2.out (j := 2)) hgW2.out (j := 3)) hgW2.out (j := 4)) hgW2.out (j := 5)) hgW2.out (j := 6)) hgW2.out (j := 7))⟩, ⟨(blk_far (p := ⟨g2, 7, none⟩) (blk_far (p := ⟨g2, 6, none⟩) (blk_far (p := ⟨g2, 5, none⟩) (blk_far (p := ⟨g2, 4, none⟩) (blk_far (p := ⟨g2, 3, none⟩) (blk_far (p := ⟨g2, 2, none⟩) (blk_far (p := ⟨g2, 1, none⟩) (blk_far (p := ⟨g2, 0, none⟩) HX3.out hne _) hne _) hne _) hne _) hne _) hne _) hne _) hne _)⟩⟩
    ·rw [if_neg c8] at H
     exact absurd H (by simp)
   ·rw [if_neg c7] at H
    have c7b := decide_eq_false c7
    clear c7
    by_cases hn : 2 ≤ x.f7.length
    ·rw [if_pos hn] at H
     have n0 : decide ((2 : Int) ≤ (x.f7.length : Int)) = true := decide_eq_true (by omega)
     have n1 : decide ((x.f7.length : Int) ≥ 2) = true := n0
     by_cases hj : 0 ≤ wrap64 ((x.f7.length : Int) - 1) ∧ wrap64 ((x.f7.length : Int) - 1) < (x.f7.length : Int)
     ·rw [if_pos hj] at H
      obtain ⟨j0, j1⟩ := hj
      obtain ⟨ad, A7, c77, e, hx0, hx1, hx2, hx3, hx4, hx5, hx6, hx7, hl7, hi7⟩ := at_T24 HC.out (wrap64 ((x.f7.length : Int) - 1)) j0 j1
      cases e
      obtain ⟨y, hy⟩ : ∃ y, rd_T24 x.f7 (wrap64 ((x.f7.length : Int) - 1)) = y := ⟨_, rfl⟩
      rw [hy] at hx0 H
      replace hx0 := (HBr.out.cell (World.block_lt_of_cell? w _ hx0)).trans hx0
      have j0b := decide_eq_true j0
      have j1b := decide_eq_true j1
      replace j0 := eq_true j0
      replace j1 := eq_true j1
      have H := Aside0.mk H
      clear hy hn hx1 hx2 hx3 hx4 hx5 hx6 hx7 hl7 hi7
      go_wp2_with (fail)
      refine (glossaryref07_worth.calls y.f0 r _ H.out).mono ?_
      rintro e w2 ⟨rfl, hb⟩
      have HB2 := Aside0.mk (below_step HBr.out (drawn_below hb))
      clear hb
      go_wp2
      go_ret
      exact ⟨rfl, HB2.out⟩
     ·rw [if_neg hj] at H
      exact absurd H (by simp)
    ·rw [if_neg hn] at H
     obtain rfl := Option.some.inj H
     have n0 : decide ((2 : Int) ≤ (x.f7.length : Int)) = false := decide_eq_false (by omega)
     have n1 : decide ((x.f7.length : Int) ≥ 2) = false := n0
     clear hn
     go_wp2
     go_ret
     exact ⟨rfl, HBr.out⟩
set_option maxHeartbeats 16000000 in
set_option maxRecDepth 100000 in
theorem rkids_13 (k : Nat) (x : S24) (A : Option Addr) (c : Nat) (r : Bool) (w : World) (hC : Kd.C k24 w A x.f7.length x.f7) (hc : x.f7.length ≤ c) (h : resL k x.f7 0 = some r) :
  Calls Tryz.prog 29 #[.agg #[.int .i64 13, .string x.f1, .int .i64 x.f2, .int .i64 x.f3, .int .i64 x.f4, .int .i64 x.f5, .string x.f6, .slice A x.f7.length c]] w fun e w' => e = .returned (.bool r) ∧ Below w.heap.size w w' := by
 have HC := Aside0.mk hC
 have Hc := Aside0.mk hc
 have H := Aside0.mk h
 clear hC hc h
 go_enter Tryz.func29, Tryz.ntmps29
 go_wp2_with (first | ((with_reducible refine gate_dst (N := 1) rfl ?_); refine box_event ?hg (N := 1) ?hd (cs := #[.int .i64 13, .string x.f1, .int .i64 x.f2, .int .i64 x.f3, .int .i64 x.f4, .int .i64 x.f5, .string x.f6, .slice A x.f7.length c]) (t := 24) ?hr ?_; (case hd => rfl); (case hg => rfl); (case hr => first | (go_simp; done) | (go_simp; rfl)); intro gx hg w1 hbox hb; have HB1 := Aside0.mk hb; have HX1 := Aside0.mk hbox; obtain ⟨hq0, hqf0, hq1, hqf1, hq2, hqf2, hq3, hqf3, hq4, hqf4, hq5, hqf5, hq6, hqf6, hq7, hqf7⟩ := cells8 hbox; clear hbox hb hg))
 go_loopg [77] k (fun kq v77 w' => ∃ (i : Int), v77 = .int .i64 i ∧ Aside0 (resL kq x.f7 i = some r) ∧ Aside0 (kq ≤ k) ∧ Aside0 (Below w.heap.size w w') ∧ Aside0 (w'.heap[gx]? = some (.cells #[.int .i64 13, .string x.f1, .int .i64 x.f2, .int .i64 x.f3, .int .i64 x.f4, .int .i64 x.f5, .string x.f6, .slice A x.f7.length c] 24 (0, 0))))
 case atStart => exact ⟨0, rfl, H, ⟨Nat.le_refl _⟩, HB1, HX1⟩
 case round =>
  clear H HB1 HX1
  clear hq0 hqf0 hq1 hqf1 hq2 hqf2 hq3 hqf3 hq4 hqf4 hq5 hqf5 hq6 hqf6 hq7 hqf7
  obtain ⟨i, rfl, HA, HK, HBr, HXr⟩ := hrel
  obtain ⟨hq0, hqf0, hq1, hqf1, hq2, hqf2, hq3, hqf3, hq4, hqf4, hq5, hqf5, hq6, hqf6, hq7, hqf7⟩ := cells8 HXr.out
  cases gk with
  | zero => exact absurd HA.out (by simp [resL])
  | succ k1 =>
   have H := HA.out
   clear HA
   simp only [resL] at H
   by_cases c7 : i < (x.f7.length : Int)
   ·rw [if_pos c7] at H
    by_cases c8 : 0 ≤ i
    ·rw [if_pos c8] at H
     obtain ⟨ad, A7, c77, e, hx0, hx1, hx2, hx3, hx4, hx5, hx6, hx7, hl7, hi7⟩ := at_T24 HC.out i c8 c7
     cases e
     replace hx0 := (HBr.out.cell (World.block_lt_of_cell? w _ hx0)).trans hx0
     replace hx1 := (HBr.out.cell (World.block_lt_of_cell? w _ hx1)).trans hx1
     replace hx2 := (HBr.out.cell (World.block_lt_of_cell? w _ hx2)).trans hx2
     replace hx3 := (HBr.out.cell (World.block_lt_of_cell? w _ hx3)).trans hx3
     replace hx4 := (HBr.out.cell (World.block_lt_of_cell? w _ hx4)).trans hx4
     replace hx5 := (HBr.out.cell (World.block_lt_of_cell? w _ hx5)).trans hx5
     replace hx6 := (HBr.out.cell (World.block_lt_of_cell? w _ hx6)).trans hx6
     replace hx7 := (HBr.out.cell (World.block_lt_of_cell? w _ hx7)).trans hx7
     clear hl7 hi7
     have c7b := decide_eq_true c7
     have c8b := decide_eq_true c8
     replace c7 := eq_true c7
     replace c8 := eq_true c8
     obtain ⟨y, hy⟩ : ∃ y, rd_T24 x.f7 i = y := ⟨_, rfl⟩
     rw [hy] at H hx0 hx1 hx2 hx3 hx4 hx5 hx6 hx7
     clear hy
     have hn0 : 0 < x.f7.length := by have := of_eq_true c7; have := of_eq_true c8; omega
     obtain ⟨ad', A7', c77', e, hy0, hy1, hy2, hy3, hy4, hy5, hy6, hy7, hl7, hi7⟩ := at_T24 HC.out 0 (by omega) (by omega)
     cases e
     obtain ⟨z, hz⟩ : ∃ z, rd_T24 x.f7 0 = z := ⟨_, rfl⟩
     have had : ad.add 0 = ad := by simp [Addr.add]
     rw [hz] at hy0 H
     simp only [Int.toNat_zero, Nat.zero_mul, had] at hy0
     have hy00 := Aside0.mk hy0
     have hn0b : decide (0 < x.f7.length) = true := decide_eq_true hn0
     clear hz hy0 hy1 hy2 hy3 hy4 hy5 hy6 hy7 hl7 hi7 had
     by_cases ha : y.f0 = 14
     ·have a0 : (y.f0 == 14) = true := beq_iff_eq.mpr ha
      have a1 : (y.f0 != 14) = false := bne_eq_false_iff_eq.mpr ha
      rw [if_neg (fun e => absurd ha e.1)] at H
      clear ha
      by_cases hz : y.f0 = z.f0
      ·have z0 : (y.f0 == z.f0) = true := beq_iff_eq.mpr hz
       have z1 : (y.f0 != z.f0) = false := bne_eq_false_iff_eq.mpr hz
       rw [if_neg (fun e => absurd hz e)] at H
       have H := Aside0.mk H
       clear hz
       go_upto_region 27 with (first | ((with_reducible refine gate_dst (N := 9) rfl ?_); refine box_event ?hg (N := 9) ?hd (cs := #[.int .i64 0, .string (⟨#[]⟩ : ByteArray), .int .i64 0, .int .i64 0, .int .i64 0, .int .i64 0, .string (⟨#[]⟩ : ByteArray), .slice none 0 0]) (t := 24) ?hr ?_; (case hd => rfl); (case hg => rfl); (case hr => first | (go_simp; done) | (go_simp; rfl)); intro g2 hg w3 hbox hb; have HB3 := Aside0.mk (below_step HBr.out hb); have HX3 := Aside0.mk (blk_below HXr.out hb); have hgW2 := Aside0.mk (show w.heap.size ≤ g2 by rw [hg]; exact HBr.out.size); have hne : gx ≠ g2 := (fun e => by subst e; exact absurd (blk_lt HXr.out) (by omega)); have HK3 := Aside0.mk hbox; have hp0 := pw_cell_below hb hq0; have hp1 := pw_cell_below hb hq1; have hp2 := pw_cell_below hb hq2; have hp3 := pw_cell_below hb hq3; have hp4 := pw_cell_below hb hq4; have hp5 := pw_cell_below hb hq5; have hp6 := pw_cell_below hb hq6; have hp7 := pw_cell_below hb hq7; obtain ⟨hz0, hzf0, hz1, hzf1, hz2, hzf2, hz3, hzf3, hz4, hzf4, hz5, hzf5, hz6, hzf6, hz7, hzf7⟩ := cells8 hbox; clear hbox hb hg))
       obtain ⟨wq, hwq, q1, q2, q3⟩ := put8 w3 g2 (.int .i64 y.f0) (.string y.f1) (.int .i64 y.f2) (.int .i64 y.f3) (.int .i64 y.f4) (.int .i64 y.f5) (.string y.f6) (.slice A7 y.f7.length c77)
       rw [hwq]
       have HBq := Aside0.mk (q1 w HB3.out hgW2.out)
       have HXq := Aside0.mk (q2 gx _ _ hne HX3.out)
       have HKq := Aside0.mk (q3 _ _ _ _ _ _ _ _ _ HK3.out)
       have hy0 := (HBq.out.cell (World.block_lt_of_cell? w _ hy00.out)).trans hy00.out
       clear hwq q1 q2 q3 HBr HXr HB3 HX3 HK3 hz0 hzf0 hp0 hq0 hqf0 hz1 hzf1 hp1 hq1 hqf1 hz2 hzf2 hp2 hq2 hqf2 hz3 hzf3 hp3 hq3 hqf3 hz4 hzf4 hp4 hq4 hqf4 hz5 hzf5 hp5 hq5 hqf5 hz6 hzf6 hp6 hq6 hqf6 hz7 hzf7 hp7 hq7 hqf7
       obtain ⟨hq0, hqf0, hq1, hqf1, hq2, hqf2, hq3, hqf3, hq4, hqf4, hq5, hqf5, hq6, hqf6, hq7, hqf7⟩ := cells8 HXq.out
       obtain ⟨hk0, hkf0, hk1, hkf1, hk2, hkf2, hk3, hkf3, hk4, hkf4, hk5, hkf5, hk6, hkf6, hk7, hkf7⟩ := cells8 HKq.out
       go_quiet (fail)
       go_wp2
       go_roundg k1
       case measure => have := HK.out; omega
       case rel => exact ⟨wrap64 (i + 1), rfl, H, ⟨by have := HK.out; omega⟩, ⟨pw_below_drewN HBq.out _⟩, ⟨HXq.out⟩⟩
      ·have z0 : (y.f0 == z.f0) = false := beq_eq_false_iff_ne.mpr hz
       have z1 : (y.f0 != z.f0) = true := bne_iff_ne.mpr hz
       rw [if_pos hz] at H
       clear hz
       obtain rfl := Option.some.inj H
       go_upto_region 27 with (first | ((with_reducible refine gate_dst (N := 9) rfl ?_); refine box_event ?hg (N := 9) ?hd (cs := #[.int .i64 0, .string (⟨#[]⟩ : ByteArray), .int .i64 0, .int .i64 0, .int .i64 0, .int .i64 0, .string (⟨#[]⟩ : ByteArray), .slice none 0 0]) (t := 24) ?hr ?_; (case hd => rfl); (case hg => rfl); (case hr => first | (go_simp; done) | (go_simp; rfl)); intro g2 hg w3 hbox hb; have HB3 := Aside0.mk (below_step HBr.out hb); have HX3 := Aside0.mk (blk_below HXr.out hb); have hgW2 := Aside0.mk (show w.heap.size ≤ g2 by rw [hg]; exact HBr.out.size); have hne : gx ≠ g2 := (fun e => by subst e; exact absurd (blk_lt HXr.out) (by omega)); have HK3 := Aside0.mk hbox; have hp0 := pw_cell_below hb hq0; have hp1 := pw_cell_below hb hq1; have hp2 := pw_cell_below hb hq2; have hp3 := pw_cell_below hb hq3; have hp4 := pw_cell_below hb hq4; have hp5 := pw_cell_below hb hq5; have hp6 := pw_cell_below hb hq6; have hp7 := pw_cell_below hb hq7; obtain ⟨hz0, hzf0, hz1, hzf1, hz2, hzf2, hz3, hzf3, hz4, hzf4, hz5, hzf5, hz6, hzf6, hz7, hzf7⟩ := cells8 hbox; clear hbox hb hg))
       obtain ⟨wq, hwq, q1, q2, q3⟩ := put8 w3 g2 (.int .i64 y.f0) (.string y.f1) (.int .i64 y.f2) (.int .i64 y.f3) (.int .i64 y.f4) (.int .i64 y.f5) (.string y.f6) (.slice A7 y.f7.length c77)
       rw [hwq]
       have HBq := Aside0.mk (q1 w HB3.out hgW2.out)
       have HXq := Aside0.mk (q2 gx _ _ hne HX3.out)
       have HKq := Aside0.mk (q3 _ _ _ _ _ _ _ _ _ HK3.out)
       have hy0 := (HBq.out.cell (World.block_lt_of_cell? w _ hy00.out)).trans hy00.out
       clear hwq q1 q2 q3 HBr HXr HB3 HX3 HK3 hz0 hzf0 hp0 hq0 hqf0 hz1 hzf1 hp1 hq1 hqf1 hz2 hzf2 hp2 hq2 hqf2 hz3 hzf3 hp3 hq3 hqf3 hz4 hzf4 hp4 hq4 hqf4 hz5 hzf5 hp5 hq5 hqf5 hz6 hzf6 hp6 hq6 hqf6 hz7 hzf7 hp7 hq7 hqf7
       obtain ⟨hq0, hqf0, hq1, hqf1, hq2, hqf2, hq3, hqf3, hq4, hqf4, hq5, hqf5, hq6, hqf6, hq7, hqf7⟩ := cells8 HXq.out
       obtain ⟨hk0, hkf0, hk1, hkf1, hk2, hkf2, hk3, hkf3, hk4, hkf4, hk5, hkf5, hk6, hkf6, hk7, hkf7⟩ := cells8 HKq.out
       go_quiet (fail)
       go_wp2
       go_ret
       exact ⟨rfl, pw_below_drewN HBq.out _⟩
     ·have a0 : (y.f0 == 14) = false := beq_eq_false_iff_ne.mpr ha
      have a1 : (y.f0 != 14) = true := bne_iff_ne.mpr ha
      by_cases hb : y.f0 = 15
      ·have b0 : (y.f0 == 15) = true := beq_iff_eq.mpr hb
       have b1 : (y.f0 != 15) = false := bne_eq_false_iff_eq.mpr hb
       rw [if_neg (fun e => absurd hb e.2)] at H
       clear ha hb
       by_cases hz : y.f0 = z.f0
       ·have z0 : (y.f0 == z.f0) = true := beq_iff_eq.mpr hz
        have z1 : (y.f0 != z.f0) = false := bne_eq_false_iff_eq.mpr hz
        rw [if_neg (fun e => absurd hz e)] at H
        have H := Aside0.mk H
        clear hz
        go_upto_region 27 with (first | ((with_reducible refine gate_dst (N := 9) rfl ?_); refine box_event ?hg (N := 9) ?hd (cs := #[.int .i64 0, .string (⟨#[]⟩ : ByteArray), .int .i64 0, .int .i64 0, .int .i64 0, .int .i64 0, .string (⟨#[]⟩ : ByteArray), .slice none 0 0]) (t := 24) ?hr ?_; (case hd => rfl); (case hg => rfl); (case hr => first | (go_simp; done) | (go_simp; rfl)); intro g2 hg w3 hbox hb; have HB3 := Aside0.mk (below_step HBr.out hb); have HX3 := Aside0.mk (blk_below HXr.out hb); have hgW2 := Aside0.mk (show w.heap.size ≤ g2 by rw [hg]; exact HBr.out.size); have hne : gx ≠ g2 := (fun e => by subst e; exact absurd (blk_lt HXr.out) (by omega)); have HK3 := Aside0.mk hbox; have hp0 := pw_cell_below hb hq0; have hp1 := pw_cell_below hb hq1; have hp2 := pw_cell_below hb hq2; have hp3 := pw_cell_below hb hq3; have hp4 := pw_cell_below hb hq4; have hp5 := pw_cell_below hb hq5; have hp6 := pw_cell_below hb hq6; have hp7 := pw_cell_below hb hq7; obtain ⟨hz0, hzf0, hz1, hzf1, hz2, hzf2, hz3, hzf3, hz4, hzf4, hz5, hzf5, hz6, hzf6, hz7, hzf7⟩ := cells8 hbox; clear hbox hb hg))
        obtain ⟨wq, hwq, q1, q2, q3⟩ := put8 w3 g2 (.int .i64 y.f0) (.string y.f1) (.int .i64 y.f2) (.int .i64 y.f3) (.int .i64 y.f4) (.int .i64 y.f5) (.string y.f6) (.slice A7 y.f7.length c77)
        rw [hwq]
        have HBq := Aside0.mk (q1 w HB3.out hgW2.out)
        have HXq := Aside0.mk (q2 gx _ _ hne HX3.out)
        have HKq := Aside0.mk (q3 _ _ _ _ _ _ _ _ _ HK3.out)
        have hy0 := (HBq.out.cell (World.block_lt_of_cell? w _ hy00.out)).trans hy00.out
        clear hwq q1 q2 q3 HBr HXr HB3 HX3 HK3 hz0 hzf0 hp0 hq0 hqf0 hz1 hzf1 hp1 hq1 hqf1 hz2 hzf2 hp2 hq2 hqf2 hz3 hzf3 hp3 hq3 hqf3 hz4 hzf4 hp4 hq4 hqf4 hz5 hzf5 hp5 hq5 hqf5 hz6 hzf6 hp6 hq6 hqf6 hz7 hzf7 hp7 hq7 hqf7
        obtain ⟨hq0, hqf0, hq1, hqf1, hq2, hqf2, hq3, hqf3, hq4, hqf4, hq5, hqf5, hq6, hqf6, hq7, hqf7⟩ := cells8 HXq.out
        obtain ⟨hk0, hkf0, hk1, hkf1, hk2, hkf2, hk3, hkf3, hk4, hkf4, hk5, hkf5, hk6, hkf6, hk7, hkf7⟩ := cells8 HKq.out
        go_quiet (fail)
        go_wp2
        go_roundg k1
        case measure => have := HK.out; omega
        case rel => exact ⟨wrap64 (i + 1), rfl, H, ⟨by have := HK.out; omega⟩, ⟨pw_below_drewN HBq.out _⟩, ⟨HXq.out⟩⟩
       ·have z0 : (y.f0 == z.f0) = false := beq_eq_false_iff_ne.mpr hz
        have z1 : (y.f0 != z.f0) = true := bne_iff_ne.mpr hz
        rw [if_pos hz] at H
        clear hz
        obtain rfl := Option.some.inj H
        go_upto_region 27 with (first | ((with_reducible refine gate_dst (N := 9) rfl ?_); refine box_event ?hg (N := 9) ?hd (cs := #[.int .i64 0, .string (⟨#[]⟩ : ByteArray), .int .i64 0, .int .i64 0, .int .i64 0, .int .i64 0, .string (⟨#[]⟩ : ByteArray), .slice none 0 0]) (t := 24) ?hr ?_; (case hd => rfl); (case hg => rfl); (case hr => first | (go_simp; done) | (go_simp; rfl)); intro g2 hg w3 hbox hb; have HB3 := Aside0.mk (below_step HBr.out hb); have HX3 := Aside0.mk (blk_below HXr.out hb); have hgW2 := Aside0.mk (show w.heap.size ≤ g2 by rw [hg]; exact HBr.out.size); have hne : gx ≠ g2 := (fun e => by subst e; exact absurd (blk_lt HXr.out) (by omega)); have HK3 := Aside0.mk hbox; have hp0 := pw_cell_below hb hq0; have hp1 := pw_cell_below hb hq1; have hp2 := pw_cell_below hb hq2; have hp3 := pw_cell_below hb hq3; have hp4 := pw_cell_below hb hq4; have hp5 := pw_cell_below hb hq5; have hp6 := pw_cell_below hb hq6; have hp7 := pw_cell_below hb hq7; obtain ⟨hz0, hzf0, hz1, hzf1, hz2, hzf2, hz3, hzf3, hz4, hzf4, hz5, hzf5, hz6, hzf6, hz7, hzf7⟩ := cells8 hbox; clear hbox hb hg))
        obtain ⟨wq, hwq, q1, q2, q3⟩ := put8 w3 g2 (.int .i64 y.f0) (.string y.f1) (.int .i64 y.f2) (.int .i64 y.f3) (.int .i64 y.f4) (.int .i64 y.f5) (.string y.f6) (.slice A7 y.f7.length c77)
        rw [hwq]
        have HBq := Aside0.mk (q1 w HB3.out hgW2.out)
        have HXq := Aside0.mk (q2 gx _ _ hne HX3.out)
        have HKq := Aside0.mk (q3 _ _ _ _ _ _ _ _ _ HK3.out)
        have hy0 := (HBq.out.cell (World.block_lt_of_cell? w _ hy00.out)).trans hy00.out
        clear hwq q1 q2 q3 HBr HXr HB3 HX3 HK3 hz0 hzf0 hp0 hq0 hqf0 hz1 hzf1 hp1 hq1 hqf1 hz2 hzf2 hp2 hq2 hqf2 hz3 hzf3 hp3 hq3 hqf3 hz4 hzf4 hp4 hq4 hqf4 hz5 hzf5 hp5 hq5 hqf5 hz6 hzf6 hp6 hq6 hqf6 hz7 hzf7 hp7 hq7 hqf7
        obtain ⟨hq0, hqf0, hq1, hqf1, hq2, hqf2, hq3, hqf3, hq4, hqf4, hq5, hqf5, hq6, hqf6, hq7, hqf7⟩ := cells8 HXq.out
        obtain ⟨hk0, hkf0, hk1, hkf1, hk2, hkf2, hk3, hkf3, hk4, hkf4, hk5, hkf5, hk6, hkf6, hk7, hkf7⟩ := cells8 HKq.out
        go_quiet (fail)
        go_wp2
        go_ret
        exact ⟨rfl, pw_below_drewN HBq.out _⟩
      ·have b0 : (y.f0 == 15) = false := beq_eq_false_iff_ne.mpr hb
       have b1 : (y.f0 != 15) = true := bne_iff_ne.mpr hb
       rw [if_pos ⟨ha, hb⟩] at H
       clear ha hb
       obtain rfl := Option.some.inj H
       go_upto_region 27 with (first | ((with_reducible refine gate_dst (N := 9) rfl ?_); refine box_event ?hg (N := 9) ?hd (cs := #[.int .i64 0, .string (⟨#[]⟩ : ByteArray), .int .i64 0, .int .i64 0, .int .i64 0, .int .i64 0, .string (⟨#[]⟩ : ByteArray), .slice none 0 0]) (t := 24) ?hr ?_; (case hd => rfl); (case hg => rfl); (case hr => first | (go_simp; done) | (go_simp; rfl)); intro g2 hg w3 hbox hb; have HB3 := Aside0.mk (below_step HBr.out hb); have HX3 := Aside0.mk (blk_below HXr.out hb); have hgW2 := Aside0.mk (show w.heap.size ≤ g2 by rw [hg]; exact HBr.out.size); have hne : gx ≠ g2 := (fun e => by subst e; exact absurd (blk_lt HXr.out) (by omega)); have HK3 := Aside0.mk hbox; have hp0 := pw_cell_below hb hq0; have hp1 := pw_cell_below hb hq1; have hp2 := pw_cell_below hb hq2; have hp3 := pw_cell_below hb hq3; have hp4 := pw_cell_below hb hq4; have hp5 := pw_cell_below hb hq5; have hp6 := pw_cell_below hb hq6; have hp7 := pw_cell_below hb hq7; obtain ⟨hz0, hzf0, hz1, hzf1, hz2, hzf2, hz3, hzf3, hz4, hzf4, hz5, hzf5, hz6, hzf6, hz7, hzf7⟩ := cells8 hbox; clear hbox hb hg))
       obtain ⟨wq, hwq, q1, q2, q3⟩ := put8 w3 g2 (.int .i64 y.f0) (.string y.f1) (.int .i64 y.f2) (.int .i64 y.f3) (.int .i64 y.f4) (.int .i64 y.f5) (.string y.f6) (.slice A7 y.f7.length c77)
       rw [hwq]
       have HBq := Aside0.mk (q1 w HB3.out hgW2.out)
       have HXq := Aside0.mk (q2 gx _ _ hne HX3.out)
       have HKq := Aside0.mk (q3 _ _ _ _ _ _ _ _ _ HK3.out)
       have hy0 := (HBq.out.cell (World.block_lt_of_cell? w _ hy00.out)).trans hy00.out
       clear hwq q1 q2 q3 HBr HXr HB3 HX3 HK3 hz0 hzf0 hp0 hq0 hqf0 hz1 hzf1 hp1 hq1 hqf1 hz2 hzf2 hp2 hq2 hqf2 hz3 hzf3 hp3 hq3 hqf3 hz4 hzf4 hp4 hq4 hqf4 hz5 hzf5 hp5 hq5 hqf5 hz6 hzf6 hp6 hq6 hqf6 hz7 hzf7 hp7 hq7 hqf7
       obtain ⟨hq0, hqf0, hq1, hqf1, hq2, hqf2, hq3, hqf3, hq4, hqf4, hq5, hqf5, hq6, hqf6, hq7, hqf7⟩ := cells8 HXq.out
       obtain ⟨hk0, hkf0, hk1, hkf1, hk2, hkf2, hk3, hkf3, hk4, hkf4, hk5, hkf5, hk6, hkf6, hk7, hkf7⟩ := cells8 HKq.out
       go_quiet (fail)
       go_wp2
       go_ret
       exact ⟨rfl, pw_below_drewN HBq.out _⟩
    ·rw [if_neg c8] at H
     exact absurd H (by simp)
   ·rw [if_neg c7] at H
    have c7b := decide_eq_false c7
    clear c7
    obtain rfl := Option.some.inj H
    by_cases hn : 0 < x.f7.length
    ·have n0 : decide ((0 : Int) < (x.f7.length : Int)) = true := decide_eq_true (by omega)
     have n1 : decide ((x.f7.length : Int) > 0) = true := n0
     go_wp2
     go_ret
     exact ⟨by first | rfl | (rw [decide_eq_true hn]; rfl), HBr.out⟩
    ·have n0 : decide ((0 : Int) < (x.f7.length : Int)) = false := decide_eq_false (by omega)
     have n1 : decide ((x.f7.length : Int) > 0) = false := n0
     go_wp2
     go_ret
     exact ⟨by first | rfl | (rw [decide_eq_false hn]; rfl), HBr.out⟩
end Go.Proofs.YtdkepckkihclgaaGreatDoor.PNodeChecks

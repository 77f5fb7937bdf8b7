import Derived.Test.YtdkepckkihclgaaGreatDoorM20
import Derived.Laws.EntriesVeiled
namespace Go.Proofs.YtdkepckkihclgaaGreatDoor.PNodeChecks
open Go.RowKit Go.Proofs.YtdkepckkihclgaaGreatDoorW.PrintWords Go.Proofs.YtdkepckkihclgaaGreatDoorW.PrintLast Go.Proofs.YtdkepckkihclgaaGreatDoorW.PrintMore
set_option linter.unusedVariables false
set_option linter.unusedSimpArgs false
set_option maxHeartbeats 8000000 in
set_option maxRecDepth 100000 in
theorem positive_calls (x : S24) (A : Option Addr) (c : Nat) (w : World) :
  Calls Tryz.prog 47 #[.agg #[.int .i64 x.f0, .string x.f1, .int .i64 x.f2, .int .i64 x.f3, .int .i64 x.f4, .int .i64 x.f5, .string x.f6, .slice A x.f7.length c]] w fun e w' => e = .returned (.bool (decide (0 ≤ x.f2) && decide (x.f2 ≤ 2147483647))) ∧ Below w.heap.size w w' := by
 cases h0 : decide (0 ≤ x.f2)
 ·have h0' : decide (x.f2 ≥ 0) = false := h0
  go_enter Tryz.func47, Tryz.ntmps47
  go_wp2_with (first | ((with_reducible refine gate_dst (N := 1) rfl ?_); refine box_event ?hg (N := 1) ?hd (cs := #[.int .i64 x.f0, .string x.f1, .int .i64 x.f2, .int .i64 x.f3, .int .i64 x.f4, .int .i64 x.f5, .string x.f6, .slice A x.f7.length c]) (t := 24) ?hr ?_; (case hd => rfl); (case hg => rfl); (case hr => first | (go_simp; done) | (go_simp; rfl)); intro gx hg w1 hbox hb; have HB := Aside0.mk hb; have hq0 : w1.cell? ⟨gx, 0, none⟩ = some (.int .i64 x.f0) := (blk_cell hbox 0).trans rfl; have hq1 : w1.cell? ⟨gx, 1, none⟩ = some (.string x.f1) := (blk_cell hbox 1).trans rfl; have hq2 : w1.cell? ⟨gx, 2, none⟩ = some (.int .i64 x.f2) := (blk_cell hbox 2).trans rfl; have hq3 : w1.cell? ⟨gx, 3, none⟩ = some (.int .i64 x.f3) := (blk_cell hbox 3).trans rfl; have hq4 : w1.cell? ⟨gx, 4, none⟩ = some (.int .i64 x.f4) := (blk_cell hbox 4).trans rfl; have hq5 : w1.cell? ⟨gx, 5, none⟩ = some (.int .i64 x.f5) := (blk_cell hbox 5).trans rfl; have hq6 : w1.cell? ⟨gx, 6, none⟩ = some (.string x.f6) := (blk_cell hbox 6).trans rfl; have hq7 : w1.cell? ⟨gx, 7, none⟩ = some (.slice A x.f7.length c) := (blk_cell hbox 7).trans rfl; clear hg hb hbox))
  go_ret
  exact ⟨by rfl, HB.out⟩
 ·have h0' : decide (x.f2 ≥ 0) = true := h0
  go_enter Tryz.func47, Tryz.ntmps47
  go_wp2_with (first | ((with_reducible refine gate_dst (N := 1) rfl ?_); refine box_event ?hg (N := 1) ?hd (cs := #[.int .i64 x.f0, .string x.f1, .int .i64 x.f2, .int .i64 x.f3, .int .i64 x.f4, .int .i64 x.f5, .string x.f6, .slice A x.f7.length c]) (t := 24) ?hr ?_; (case hd => rfl); (case hg => rfl); (case hr => first | (go_simp; done) | (go_simp; rfl)); intro gx hg w1 hbox hb; have HB := Aside0.mk hb; have hq0 : w1.cell? ⟨gx, 0, none⟩ = some (.int .i64 x.f0) := (blk_cell hbox 0).trans rfl; have hq1 : w1.cell? ⟨gx, 1, none⟩ = some (.string x.f1) := (blk_cell hbox 1).trans rfl; have hq2 : w1.cell? ⟨gx, 2, none⟩ = some (.int .i64 x.f2) := (blk_cell hbox 2).trans rfl; have hq3 : w1.cell? ⟨gx, 3, none⟩ = some (.int .i64 x.f3) := (blk_cell hbox 3).trans rfl; have hq4 : w1.cell? ⟨gx, 4, none⟩ = some (.int .i64 x.f4) := (blk_cell hbox 4).trans rfl; have hq5 : w1.cell? ⟨gx, 5, none⟩ = some (.int .i64 x.f5) := (blk_cell hbox 5).trans rfl; have hq6 : w1.cell? ⟨gx, 6, none⟩ = some (.string x.f6) := (blk_cell hbox 6).trans rfl; have hq7 : w1.cell? ⟨gx, 7, none⟩ = some (.slice A x.f7.length c) := (blk_cell hbox 7).trans rfl; clear hg hb hbox))
  go_ret
  exact ⟨by rfl, HB.out⟩
set_option maxHeartbeats 8000000 in
set_option maxRecDepth 100000 in
theorem enumNum_calls (x : S24) (A : Option Addr) (c : Nat) (w : World) :
  Calls Tryz.prog 53 #[.agg #[.int .i64 x.f0, .string x.f1, .int .i64 x.f2, .int .i64 x.f3, .int .i64 x.f4, .int .i64 x.f5, .string x.f6, .slice A x.f7.length c]] w fun e w' => e = .returned (.bool (decide ((-2147483648) ≤ x.f2) && decide (x.f2 ≤ 2147483647))) ∧ Below w.heap.size w w' := by
 cases h0 : decide ((-2147483648) ≤ x.f2)
 ·have h0' : decide (x.f2 ≥ (-2147483648)) = false := h0
  go_enter Tryz.func53, Tryz.ntmps53
  go_wp2_with (first | ((with_reducible refine gate_dst (N := 1) rfl ?_); refine box_event ?hg (N := 1) ?hd (cs := #[.int .i64 x.f0, .string x.f1, .int .i64 x.f2, .int .i64 x.f3, .int .i64 x.f4, .int .i64 x.f5, .string x.f6, .slice A x.f7.length c]) (t := 24) ?hr ?_; (case hd => rfl); (case hg => rfl); (case hr => first | (go_simp; done) | (go_simp; rfl)); intro gx hg w1 hbox hb; have HB := Aside0.mk hb; have hq0 : w1.cell? ⟨gx, 0, none⟩ = some (.int .i64 x.f0) := (blk_cell hbox 0).trans rfl; have hq1 : w1.cell? ⟨gx, 1, none⟩ = some (.string x.f1) := (blk_cell hbox 1).trans rfl; have hq2 : w1.cell? ⟨gx, 2, none⟩ = some (.int .i64 x.f2) := (blk_cell hbox 2).trans rfl; have hq3 : w1.cell? ⟨gx, 3, none⟩ = some (.int .i64 x.f3) := (blk_cell hbox 3).trans rfl; have hq4 : w1.cell? ⟨gx, 4, none⟩ = some (.int .i64 x.f4) := (blk_cell hbox 4).trans rfl; have hq5 : w1.cell? ⟨gx, 5, none⟩ = some (.int .i64 x.f5) := (blk_cell hbox 5).trans rfl; have hq6 : w1.cell? ⟨gx, 6, none⟩ = some (.string x.f6) := (blk_cell hbox 6).trans rfl; have hq7 : w1.cell? ⟨gx, 7, none⟩ = some (.slice A x.f7.length c) := (blk_cell hbox 7).trans rfl; clear hg hb hbox))
  go_ret
  exact ⟨by rfl, HB.out⟩
 ·have h0' : decide (x.f2 ≥ (-2147483648)) = true := h0
  go_enter Tryz.func53, Tryz.ntmps53
  go_wp2_with (first | ((with_reducible refine gate_dst (N := 1) rfl ?_); refine box_event ?hg (N := 1) ?hd (cs := #[.int .i64 x.f0, .string x.f1, .int .i64 x.f2, .int .i64 x.f3, .int .i64 x.f4, .int .i64 x.f5, .string x.f6, .slice A x.f7.length c]) (t := 24) ?hr ?_; (case hd => rfl); (case hg => rfl); (case hr => first | (go_simp; done) | (go_simp; rfl)); intro gx hg w1 hbox hb; have HB := Aside0.mk hb; have hq0 : w1.cell? ⟨gx, 0, none⟩ = some (.int .i64 x.f0) := (blk_cell hbox 0).trans rfl; have hq1 : w1.cell? ⟨gx, 1, none⟩ = some (.string x.f1) := (blk_cell hbox 1).trans rfl; have hq2 : w1.cell? ⟨gx, 2, none⟩ = some (.int .i64 x.f2) := (blk_cell hbox 2).trans rfl; have hq3 : w1.cell? ⟨gx, 3, none⟩ = some (.int .i64 x.f3) := (blk_cell hbox 3).trans rfl; have hq4 : w1.cell? ⟨gx, 4, none⟩ = some (.int .i64 x.f4) := (blk_cell hbox 4).trans rfl; have hq5 : w1.cell? ⟨gx, 5, none⟩ = some (.int .i64 x.f5) := (blk_cell hbox 5).trans rfl; have hq6 : w1.cell? ⟨gx, 6, none⟩ = some (.string x.f6) := (blk_cell hbox 6).trans rfl; have hq7 : w1.cell? ⟨gx, 7, none⟩ = some (.slice A x.f7.length c) := (blk_cell hbox 7).trans rfl; clear hg hb hbox))
  go_ret
  exact ⟨by rfl, HB.out⟩
set_option maxHeartbeats 8000000 in
set_option maxRecDepth 100000 in
theorem rangeNum_calls (x : S24) (A : Option Addr) (c : Nat) (w : World) :
  Calls Tryz.prog 51 #[.agg #[.int .i64 x.f0, .string x.f1, .int .i64 x.f2, .int .i64 x.f3, .int .i64 x.f4, .int .i64 x.f5, .string x.f6, .slice A x.f7.length c]] w fun e w' => e = .returned (.bool (decide (0 ≤ x.f2) && decide (x.f2 ≤ 2147483647) && (decide (0 ≤ x.f3) && decide (x.f3 ≤ 2147483647)))) ∧ Below w.heap.size w w' := by
 cases hp : (decide (0 ≤ x.f2) && decide (x.f2 ≤ 2147483647))
 ·have Hp := Aside0.mk hp
  clear hp
  go_enter Tryz.func51, Tryz.ntmps51
  go_wp2_with (first | ((with_reducible refine gate_dst (N := 1) rfl ?_); refine box_event ?hg (N := 1) ?hd (cs := #[.int .i64 x.f0, .string x.f1, .int .i64 x.f2, .int .i64 x.f3, .int .i64 x.f4, .int .i64 x.f5, .string x.f6, .slice A x.f7.length c]) (t := 24) ?hr ?_; (case hd => rfl); (case hg => rfl); (case hr => first | (go_simp; done) | (go_simp; rfl)); intro gx hg w1 hbox hb; have HB := Aside0.mk hb; have hq0 : w1.cell? ⟨gx, 0, none⟩ = some (.int .i64 x.f0) := (blk_cell hbox 0).trans rfl; have hq1 : w1.cell? ⟨gx, 1, none⟩ = some (.string x.f1) := (blk_cell hbox 1).trans rfl; have hq2 : w1.cell? ⟨gx, 2, none⟩ = some (.int .i64 x.f2) := (blk_cell hbox 2).trans rfl; have hq3 : w1.cell? ⟨gx, 3, none⟩ = some (.int .i64 x.f3) := (blk_cell hbox 3).trans rfl; have hq4 : w1.cell? ⟨gx, 4, none⟩ = some (.int .i64 x.f4) := (blk_cell hbox 4).trans rfl; have hq5 : w1.cell? ⟨gx, 5, none⟩ = some (.int .i64 x.f5) := (blk_cell hbox 5).trans rfl; have hq6 : w1.cell? ⟨gx, 6, none⟩ = some (.string x.f6) := (blk_cell hbox 6).trans rfl; have hq7 : w1.cell? ⟨gx, 7, none⟩ = some (.slice A x.f7.length c) := (blk_cell hbox 7).trans rfl; clear hg hb hbox))
  refine (positive_calls x A c _).mono ?_
  rintro e w2 ⟨rfl, hb⟩
  have HB2 := Aside0.mk (below_step HB.out hb)
  clear hb
  rw [Hp.out]
  go_wp2
  go_ret
  exact ⟨by rfl, HB2.out⟩
 ·have Hp := Aside0.mk hp
  clear hp
  cases hq : decide (0 ≤ x.f3)
  ·have Hq := Aside0.mk hq
   clear hq
   have h0' : decide (x.f3 ≥ 0) = false := Hq.out
   have h0 : decide (0 ≤ x.f3) = false := Hq.out
   go_enter Tryz.func51, Tryz.ntmps51
   go_wp2_with (first | ((with_reducible refine gate_dst (N := 1) rfl ?_); refine box_event ?hg (N := 1) ?hd (cs := #[.int .i64 x.f0, .string x.f1, .int .i64 x.f2, .int .i64 x.f3, .int .i64 x.f4, .int .i64 x.f5, .string x.f6, .slice A x.f7.length c]) (t := 24) ?hr ?_; (case hd => rfl); (case hg => rfl); (case hr => first | (go_simp; done) | (go_simp; rfl)); intro gx hg w1 hbox hb; have HB := Aside0.mk hb; have hq0 : w1.cell? ⟨gx, 0, none⟩ = some (.int .i64 x.f0) := (blk_cell hbox 0).trans rfl; have hq1 : w1.cell? ⟨gx, 1, none⟩ = some (.string x.f1) := (blk_cell hbox 1).trans rfl; have hq2 : w1.cell? ⟨gx, 2, none⟩ = some (.int .i64 x.f2) := (blk_cell hbox 2).trans rfl; have hq3 : w1.cell? ⟨gx, 3, none⟩ = some (.int .i64 x.f3) := (blk_cell hbox 3).trans rfl; have hq4 : w1.cell? ⟨gx, 4, none⟩ = some (.int .i64 x.f4) := (blk_cell hbox 4).trans rfl; have hq5 : w1.cell? ⟨gx, 5, none⟩ = some (.int .i64 x.f5) := (blk_cell hbox 5).trans rfl; have hq6 : w1.cell? ⟨gx, 6, none⟩ = some (.string x.f6) := (blk_cell hbox 6).trans rfl; have hq7 : w1.cell? ⟨gx, 7, none⟩ = some (.slice A x.f7.length c) := (blk_cell hbox 7).trans rfl; clear hg hb hbox))
   refine (positive_calls x A c _).mono ?_
   rintro e w2 ⟨rfl, hb⟩
   have HB2 := Aside0.mk (below_step HB.out hb)
   have hbk := hb
   clear hb
   rw [Hp.out]
   have hr0 : w2.cell? ⟨gx, 0, none⟩ = some (.int .i64 x.f0) := pw_cell_below hbk hq0
   have hr1 : w2.cell? ⟨gx, 1, none⟩ = some (.string x.f1) := pw_cell_below hbk hq1
   have hr2 : w2.cell? ⟨gx, 2, none⟩ = some (.int .i64 x.f2) := pw_cell_below hbk hq2
   have hr3 : w2.cell? ⟨gx, 3, none⟩ = some (.int .i64 x.f3) := pw_cell_below hbk hq3
   have hr4 : w2.cell? ⟨gx, 4, none⟩ = some (.int .i64 x.f4) := pw_cell_below hbk hq4
   have hr5 : w2.cell? ⟨gx, 5, none⟩ = some (.int .i64 x.f5) := pw_cell_below hbk hq5
   have hr6 : w2.cell? ⟨gx, 6, none⟩ = some (.string x.f6) := pw_cell_below hbk hq6
   have hr7 : w2.cell? ⟨gx, 7, none⟩ = some (.slice A x.f7.length c) := pw_cell_below hbk hq7
   go_wp2
   go_ret
   exact ⟨by rfl, HB2.out⟩
  ·have Hq := Aside0.mk hq
   clear hq
   have h0' : decide (x.f3 ≥ 0) = true := Hq.out
   have h0 : decide (0 ≤ x.f3) = true := Hq.out
   go_enter Tryz.func51, Tryz.ntmps51
   go_wp2_with (first | ((with_reducible refine gate_dst (N := 1) rfl ?_); refine box_event ?hg (N := 1) ?hd (cs := #[.int .i64 x.f0, .string x.f1, .int .i64 x.f2, .int .i64 x.f3, .int .i64 x.f4, .int .i64 x.f5, .string x.f6, .slice A x.f7.length c]) (t := 24) ?hr ?_; (case hd => rfl); (case hg => rfl); (case hr => first | (go_simp; done) | (go_simp; rfl)); intro gx hg w1 hbox hb; have HB := Aside0.mk hb; have hq0 : w1.cell? ⟨gx, 0, none⟩ = some (.int .i64 x.f0) := (blk_cell hbox 0).trans rfl; have hq1 : w1.cell? ⟨gx, 1, none⟩ = some (.string x.f1) := (blk_cell hbox 1).trans rfl; have hq2 : w1.cell? ⟨gx, 2, none⟩ = some (.int .i64 x.f2) := (blk_cell hbox 2).trans rfl; have hq3 : w1.cell? ⟨gx, 3, none⟩ = some (.int .i64 x.f3) := (blk_cell hbox 3).trans rfl; have hq4 : w1.cell? ⟨gx, 4, none⟩ = some (.int .i64 x.f4) := (blk_cell hbox 4).trans rfl; have hq5 : w1.cell? ⟨gx, 5, none⟩ = some (.int .i64 x.f5) := (blk_cell hbox 5).trans rfl; have hq6 : w1.cell? ⟨gx, 6, none⟩ = some (.string x.f6) := (blk_cell hbox 6).trans rfl; have hq7 : w1.cell? ⟨gx, 7, none⟩ = some (.slice A x.f7.length c) := (blk_cell hbox 7).trans rfl; clear hg hb hbox))
   refine (positive_calls x A c _).mono ?_
   rintro e w2 ⟨rfl, hb⟩
   have HB2 := Aside0.mk (below_step HB.out hb)
   have hbk := hb
   clear hb
   rw [Hp.out]
   have hr0 : w2.cell? ⟨gx, 0, none⟩ = some (.int .i64 x.f0) := pw_cell_below hbk hq0
   have hr1 : w2.cell? ⟨gx, 1, none⟩ = some (.string x.f1) := pw_cell_below hbk hq1
   have hr2 : w2.cell? ⟨gx, 2, none⟩ = some (.int .i64 x.f2) := pw_cell_below hbk hq2
   have hr3 : w2.cell? ⟨gx, 3, none⟩ = some (.int .i64 x.f3) := pw_cell_below hbk hq3
   have hr4 : w2.cell? ⟨gx, 4, none⟩ = some (.int .i64 x.f4) := pw_cell_below hbk hq4
   have hr5 : w2.cell? ⟨gx, 5, none⟩ = some (.int .i64 x.f5) := pw_cell_below hbk hq5
   have hr6 : w2.cell? ⟨gx, 6, none⟩ = some (.string x.f6) := pw_cell_below hbk hq6
   have hr7 : w2.cell? ⟨gx, 7, none⟩ = some (.slice A x.f7.length c) := pw_cell_below hbk hq7
   go_wp2
   go_ret
   exact ⟨by rfl, HB2.out⟩
set_option maxHeartbeats 8000000 in
set_option maxRecDepth 100000 in
theorem valueName_calls (x : S24) (A : Option Addr) (c : Nat) (w : World) (hs : x.f1.size < 4294967281) :
  Calls Tryz.prog 52 #[.agg #[.int .i64 x.f0, .string x.f1, .int .i64 x.f2, .int .i64 x.f3, .int .i64 x.f4, .int .i64 x.f5, .string x.f6, .slice A x.f7.length c]] w fun e w' => e = .returned (.bool (identB x.f1 && (!(x.f1.toList == ([111, 112, 116, 105, 111, 110] : List UInt8)) && !(x.f1.toList == ([114, 101, 115, 101, 114, 118, 101, 100] : List UInt8))))) ∧ Below w.heap.size w w' := by
 have HS := Aside0.mk hs
 clear hs
 cases hp : identB x.f1
 ·have Hp := Aside0.mk hp
  clear hp
  go_enter Tryz.func52, Tryz.ntmps52
  go_wp2_with (first | ((with_reducible refine gate_dst (N := 1) rfl ?_); refine box_event ?hg (N := 1) ?hd (cs := #[.int .i64 x.f0, .string x.f1, .int .i64 x.f2, .int .i64 x.f3, .int .i64 x.f4, .int .i64 x.f5, .string x.f6, .slice A x.f7.length c]) (t := 24) ?hr ?_; (case hd => rfl); (case hg => rfl); (case hr => first | (go_simp; done) | (go_simp; rfl)); intro gx hg w1 hbox hb; have HB := Aside0.mk hb; have hq0 : w1.cell? ⟨gx, 0, none⟩ = some (.int .i64 x.f0) := (blk_cell hbox 0).trans rfl; have hq1 : w1.cell? ⟨gx, 1, none⟩ = some (.string x.f1) := (blk_cell hbox 1).trans rfl; have hq2 : w1.cell? ⟨gx, 2, none⟩ = some (.int .i64 x.f2) := (blk_cell hbox 2).trans rfl; have hq3 : w1.cell? ⟨gx, 3, none⟩ = some (.int .i64 x.f3) := (blk_cell hbox 3).trans rfl; have hq4 : w1.cell? ⟨gx, 4, none⟩ = some (.int .i64 x.f4) := (blk_cell hbox 4).trans rfl; have hq5 : w1.cell? ⟨gx, 5, none⟩ = some (.int .i64 x.f5) := (blk_cell hbox 5).trans rfl; have hq6 : w1.cell? ⟨gx, 6, none⟩ = some (.string x.f6) := (blk_cell hbox 6).trans rfl; have hq7 : w1.cell? ⟨gx, 7, none⟩ = some (.slice A x.f7.length c) := (blk_cell hbox 7).trans rfl; clear hg hb hbox))
  refine (isIdent_calls x A c _ HS.out).mono ?_
  rintro e w2 ⟨rfl, hb⟩
  have HB2 := Aside0.mk (below_step HB.out hb)
  clear hb
  rw [Hp.out]
  go_wp2
  go_ret
  exact ⟨by rfl, HB2.out⟩
 ·have Hp := Aside0.mk hp
  clear hp
  cases hq : (x.f1.toList == ([111, 112, 116, 105, 111, 110] : List UInt8))
  ·have Hq := Aside0.mk hq
   clear hq
   have k0 := Hq.out
   have k1 : (x.f1.toList != ([111, 112, 116, 105, 111, 110] : List UInt8)) = true := by (rw [bne, Hq.out]; rfl)
   go_enter Tryz.func52, Tryz.ntmps52
   go_wp2_with (first | ((with_reducible refine gate_dst (N := 1) rfl ?_); refine box_event ?hg (N := 1) ?hd (cs := #[.int .i64 x.f0, .string x.f1, .int .i64 x.f2, .int .i64 x.f3, .int .i64 x.f4, .int .i64 x.f5, .string x.f6, .slice A x.f7.length c]) (t := 24) ?hr ?_; (case hd => rfl); (case hg => rfl); (case hr => first | (go_simp; done) | (go_simp; rfl)); intro gx hg w1 hbox hb; have HB := Aside0.mk hb; have hq0 : w1.cell? ⟨gx, 0, none⟩ = some (.int .i64 x.f0) := (blk_cell hbox 0).trans rfl; have hq1 : w1.cell? ⟨gx, 1, none⟩ = some (.string x.f1) := (blk_cell hbox 1).trans rfl; have hq2 : w1.cell? ⟨gx, 2, none⟩ = some (.int .i64 x.f2) := (blk_cell hbox 2).trans rfl; have hq3 : w1.cell? ⟨gx, 3, none⟩ = some (.int .i64 x.f3) := (blk_cell hbox 3).trans rfl; have hq4 : w1.cell? ⟨gx, 4, none⟩ = some (.int .i64 x.f4) := (blk_cell hbox 4).trans rfl; have hq5 : w1.cell? ⟨gx, 5, none⟩ = some (.int .i64 x.f5) := (blk_cell hbox 5).trans rfl; have hq6 : w1.cell? ⟨gx, 6, none⟩ = some (.string x.f6) := (blk_cell hbox 6).trans rfl; have hq7 : w1.cell? ⟨gx, 7, none⟩ = some (.slice A x.f7.length c) := (blk_cell hbox 7).trans rfl; clear hg hb hbox))
   refine (isIdent_calls x A c _ HS.out).mono ?_
   rintro e w2 ⟨rfl, hb⟩
   have HB2 := Aside0.mk (below_step HB.out hb)
   have hbk := hb
   clear hb
   rw [Hp.out]
   have hr0 : w2.cell? ⟨gx, 0, none⟩ = some (.int .i64 x.f0) := pw_cell_below hbk hq0
   have hr1 : w2.cell? ⟨gx, 1, none⟩ = some (.string x.f1) := pw_cell_below hbk hq1
   have hr2 : w2.cell? ⟨gx, 2, none⟩ = some (.int .i64 x.f2) := pw_cell_below hbk hq2
   have hr3 : w2.cell? ⟨gx, 3, none⟩ = some (.int .i64 x.f3) := pw_cell_below hbk hq3
   have hr4 : w2.cell? ⟨gx, 4, none⟩ = some (.int .i64 x.f4) := pw_cell_below hbk hq4
   have hr5 : w2.cell? ⟨gx, 5, none⟩ = some (.int .i64 x.f5) := pw_cell_below hbk hq5
   have hr6 : w2.cell? ⟨gx, 6, none⟩ = some (.string x.f6) := pw_cell_below hbk hq6
   have hr7 : w2.cell? ⟨gx, 7, none⟩ = some (.slice A x.f7.length c) := pw_cell_below hbk hq7
   go_wp2
   go_ret
   exact ⟨by rfl, HB2.out⟩
  ·have Hq := Aside0.mk hq
   clear hq
   have k0 := Hq.out
   have k1 : (x.f1.toList != ([111, 112, 116, 105, 111, 110] : List UInt8)) = false := by (rw [bne, Hq.out]; rfl)
   go_enter Tryz.func52, Tryz.ntmps52
   go_wp2_with (first | ((with_reducible refine gate_dst (N := 1) rfl ?_); refine box_event ?hg (N := 1) ?hd (cs := #[.int .i64 x.f0, .string x.f1, .int .i64 x.f2, .int .i64 x.f3, .int .i64 x.f4, .int .i64 x.f5, .string x.f6, .slice A x.f7.length c]) (t := 24) ?hr ?_; (case hd => rfl); (case hg => rfl); (case hr => first | (go_simp; done) | (go_simp; rfl)); intro gx hg w1 hbox hb; have HB := Aside0.mk hb; have hq0 : w1.cell? ⟨gx, 0, none⟩ = some (.int .i64 x.f0) := (blk_cell hbox 0).trans rfl; have hq1 : w1.cell? ⟨gx, 1, none⟩ = some (.string x.f1) := (blk_cell hbox 1).trans rfl; have hq2 : w1.cell? ⟨gx, 2, none⟩ = some (.int .i64 x.f2) := (blk_cell hbox 2).trans rfl; have hq3 : w1.cell? ⟨gx, 3, none⟩ = some (.int .i64 x.f3) := (blk_cell hbox 3).trans rfl; have hq4 : w1.cell? ⟨gx, 4, none⟩ = some (.int .i64 x.f4) := (blk_cell hbox 4).trans rfl; have hq5 : w1.cell? ⟨gx, 5, none⟩ = some (.int .i64 x.f5) := (blk_cell hbox 5).trans rfl; have hq6 : w1.cell? ⟨gx, 6, none⟩ = some (.string x.f6) := (blk_cell hbox 6).trans rfl; have hq7 : w1.cell? ⟨gx, 7, none⟩ = some (.slice A x.f7.length c) := (blk_cell hbox 7).trans rfl; clear hg hb hbox))
   refine (isIdent_calls x A c _ HS.out).mono ?_
   rintro e w2 ⟨rfl, hb⟩
   have HB2 := Aside0.mk (below_step HB.out hb)
   have hbk := hb
   clear hb
   rw [Hp.out]
   have hr0 : w2.cell? ⟨gx, 0, none⟩ = some (.int .i64 x.f0) := pw_cell_below hbk hq0
   have hr1 : w2.cell? ⟨gx, 1, none⟩ = some (.string x.f1) := pw_cell_below hbk hq1
   have hr2 : w2.cell? ⟨gx, 2, none⟩ = some (.int .i64 x.f2) := pw_cell_below hbk hq2
   have hr3 : w2.cell? ⟨gx, 3, none⟩ = some (.int .i64 x.f3) := pw_cell_below hbk hq3
   have hr4 : w2.cell? ⟨gx, 4, none⟩ = some (.int .i64 x.f4) := pw_cell_below hbk hq4
   have hr5 : w2.cell? ⟨gx, 5, none⟩ = some (.int .i64 x.f5) := pw_cell_below hbk hq5
   have hr6 : w2.cell? ⟨gx, 6, none⟩ = some (.string x.f6) := pw_cell_below hbk hq6
   have hr7 : w2.cell? ⟨gx, 7, none⟩ = some (.slice A x.f7.length c) := pw_cell_below hbk hq7
   go_wp2
   go_ret
   exact ⟨by rfl, HB2.out⟩
set_option maxHeartbeats 8000000 in
set_option maxRecDepth 100000 in
theorem typeText_calls (x : S24) (A : Option Addr) (c : Nat) (w : World) (hs : x.f1.size < 4294967281) (hm : ∃ m, w.cell? ⟨0, 0, none⟩ = some (.int .i64 m)) :
  Calls Tryz.prog 54 #[.agg #[.int .i64 x.f0, .string x.f1, .int .i64 x.f2, .int .i64 x.f3, .int .i64 x.f4, .int .i64 x.f5, .string x.f6, .slice A x.f7.length c]] w fun e w' => e = .returned (.bool (plainB x.f1 || namedB x.f1)) ∧ Below w.heap.size w w' := by
 have HS := Aside0.mk hs
 have HM := Aside0.mk hm
 clear hs hm
 cases hp : plainB x.f1
 ·have Hp := Aside0.mk hp
  clear hp
  go_enter Tryz.func54, Tryz.ntmps54
  go_wp2_with (first | ((with_reducible refine gate_dst (N := 1) rfl ?_); refine box_event ?hg (N := 1) ?hd (cs := #[.int .i64 x.f0, .string x.f1, .int .i64 x.f2, .int .i64 x.f3, .int .i64 x.f4, .int .i64 x.f5, .string x.f6, .slice A x.f7.length c]) (t := 24) ?hr ?_; (case hd => rfl); (case hg => rfl); (case hr => first | (go_simp; done) | (go_simp; rfl)); intro gx hg w1 hbox hb; have HB := Aside0.mk hb; have hq0 : w1.cell? ⟨gx, 0, none⟩ = some (.int .i64 x.f0) := (blk_cell hbox 0).trans rfl; have hq1 : w1.cell? ⟨gx, 1, none⟩ = some (.string x.f1) := (blk_cell hbox 1).trans rfl; have hq2 : w1.cell? ⟨gx, 2, none⟩ = some (.int .i64 x.f2) := (blk_cell hbox 2).trans rfl; have hq3 : w1.cell? ⟨gx, 3, none⟩ = some (.int .i64 x.f3) := (blk_cell hbox 3).trans rfl; have hq4 : w1.cell? ⟨gx, 4, none⟩ = some (.int .i64 x.f4) := (blk_cell hbox 4).trans rfl; have hq5 : w1.cell? ⟨gx, 5, none⟩ = some (.int .i64 x.f5) := (blk_cell hbox 5).trans rfl; have hq6 : w1.cell? ⟨gx, 6, none⟩ = some (.string x.f6) := (blk_cell hbox 6).trans rfl; have hq7 : w1.cell? ⟨gx, 7, none⟩ = some (.slice A x.f7.length c) := (blk_cell hbox 7).trans rfl; clear hg hb hbox))
  refine (Plain_calls x.f1 _).mono ?_
  rintro e w2 ⟨rfl, hb⟩
  have HB2 := Aside0.mk (below_step HB.out hb)
  have hbk := hb
  clear hb
  rw [Hp.out]
  have hr0 : w2.cell? ⟨gx, 0, none⟩ = some (.int .i64 x.f0) := pw_cell_below hbk hq0
  have hr1 : w2.cell? ⟨gx, 1, none⟩ = some (.string x.f1) := pw_cell_below hbk hq1
  have hr2 : w2.cell? ⟨gx, 2, none⟩ = some (.int .i64 x.f2) := pw_cell_below hbk hq2
  have hr3 : w2.cell? ⟨gx, 3, none⟩ = some (.int .i64 x.f3) := pw_cell_below hbk hq3
  have hr4 : w2.cell? ⟨gx, 4, none⟩ = some (.int .i64 x.f4) := pw_cell_below hbk hq4
  have hr5 : w2.cell? ⟨gx, 5, none⟩ = some (.int .i64 x.f5) := pw_cell_below hbk hq5
  have hr6 : w2.cell? ⟨gx, 6, none⟩ = some (.string x.f6) := pw_cell_below hbk hq6
  have hr7 : w2.cell? ⟨gx, 7, none⟩ = some (.slice A x.f7.length c) := pw_cell_below hbk hq7
  go_wp2_with (fail)
  refine (Named_calls x.f1 _ HS.out (by obtain ⟨m, hm⟩ := HM.out; exact ⟨m, (HB2.out.cell (World.block_lt_of_cell? w _ hm)).trans hm⟩)).mono ?_
  rintro e w3 ⟨rfl, hb⟩
  have HB3 := Aside0.mk (below_step HB2.out hb)
  clear hb
  go_wp2
  go_ret
  exact ⟨by rfl, HB3.out⟩
 ·have Hp := Aside0.mk hp
  clear hp
  go_enter Tryz.func54, Tryz.ntmps54
  go_wp2_with (first | ((with_reducible refine gate_dst (N := 1) rfl ?_); refine box_event ?hg (N := 1) ?hd (cs := #[.int .i64 x.f0, .string x.f1, .int .i64 x.f2, .int .i64 x.f3, .int .i64 x.f4, .int .i64 x.f5, .string x.f6, .slice A x.f7.length c]) (t := 24) ?hr ?_; (case hd => rfl); (case hg => rfl); (case hr => first | (go_simp; done) | (go_simp; rfl)); intro gx hg w1 hbox hb; have HB := Aside0.mk hb; have hq0 : w1.cell? ⟨gx, 0, none⟩ = some (.int .i64 x.f0) := (blk_cell hbox 0).trans rfl; have hq1 : w1.cell? ⟨gx, 1, none⟩ = some (.string x.f1) := (blk_cell hbox 1).trans rfl; have hq2 : w1.cell? ⟨gx, 2, none⟩ = some (.int .i64 x.f2) := (blk_cell hbox 2).trans rfl; have hq3 : w1.cell? ⟨gx, 3, none⟩ = some (.int .i64 x.f3) := (blk_cell hbox 3).trans rfl; have hq4 : w1.cell? ⟨gx, 4, none⟩ = some (.int .i64 x.f4) := (blk_cell hbox 4).trans rfl; have hq5 : w1.cell? ⟨gx, 5, none⟩ = some (.int .i64 x.f5) := (blk_cell hbox 5).trans rfl; have hq6 : w1.cell? ⟨gx, 6, none⟩ = some (.string x.f6) := (blk_cell hbox 6).trans rfl; have hq7 : w1.cell? ⟨gx, 7, none⟩ = some (.slice A x.f7.length c) := (blk_cell hbox 7).trans rfl; clear hg hb hbox))
  refine (Plain_calls x.f1 _).mono ?_
  rintro e w2 ⟨rfl, hb⟩
  have HB2 := Aside0.mk (below_step HB.out hb)
  clear hb
  rw [Hp.out]
  go_wp2
  go_ret
  exact ⟨by rfl, HB2.out⟩
set_option maxHeartbeats 8000000 in
set_option maxRecDepth 100000 in
theorem optName_calls (x : S24) (A : Option Addr) (c : Nat) (w : World) (hs : x.f1.size < 4294967281) :
  Calls Tryz.prog 55 #[.agg #[.int .i64 x.f0, .string x.f1, .int .i64 x.f2, .int .i64 x.f3, .int .i64 x.f4, .int .i64 x.f5, .string x.f6, .slice A x.f7.length c]] w fun e w' => e = .returned (.bool (if (x.f4 == 1) = true then refB x.f1 else identB x.f1)) ∧ Below w.heap.size w w' := by
 have HS := Aside0.mk hs
 clear hs
 cases hp : (x.f4 == 1)
 ·have Hp := Aside0.mk hp
  clear hp
  have k0 : (x.f4 == 1) = false := Hp.out
  have k1 : decide (x.f4 = 1) = false := Hp.out
  go_enter Tryz.func55, Tryz.ntmps55
  go_wp2_with (first | ((with_reducible refine gate_dst (N := 1) rfl ?_); refine box_event ?hg (N := 1) ?hd (cs := #[.int .i64 x.f0, .string x.f1, .int .i64 x.f2, .int .i64 x.f3, .int .i64 x.f4, .int .i64 x.f5, .string x.f6, .slice A x.f7.length c]) (t := 24) ?hr ?_; (case hd => rfl); (case hg => rfl); (case hr => first | (go_simp; done) | (go_simp; rfl)); intro gx hg w1 hbox hb; have HB := Aside0.mk hb; have hq0 : w1.cell? ⟨gx, 0, none⟩ = some (.int .i64 x.f0) := (blk_cell hbox 0).trans rfl; have hq1 : w1.cell? ⟨gx, 1, none⟩ = some (.string x.f1) := (blk_cell hbox 1).trans rfl; have hq2 : w1.cell? ⟨gx, 2, none⟩ = some (.int .i64 x.f2) := (blk_cell hbox 2).trans rfl; have hq3 : w1.cell? ⟨gx, 3, none⟩ = some (.int .i64 x.f3) := (blk_cell hbox 3).trans rfl; have hq4 : w1.cell? ⟨gx, 4, none⟩ = some (.int .i64 x.f4) := (blk_cell hbox 4).trans rfl; have hq5 : w1.cell? ⟨gx, 5, none⟩ = some (.int .i64 x.f5) := (blk_cell hbox 5).trans rfl; have hq6 : w1.cell? ⟨gx, 6, none⟩ = some (.string x.f6) := (blk_cell hbox 6).trans rfl; have hq7 : w1.cell? ⟨gx, 7, none⟩ = some (.slice A x.f7.length c) := (blk_cell hbox 7).trans rfl; clear hg hb hbox))
  refine (names_Ident.calls0 x.f1 _ (by have := HS.out; omega)).mono ?_
  rintro e w2 ⟨rfl, hb⟩
  have HB2 := Aside0.mk (below_step HB.out hb)
  clear hb
  go_wp2
  go_ret
  exact ⟨by rfl, HB2.out⟩
 ·have Hp := Aside0.mk hp
  clear hp
  have k0 : (x.f4 == 1) = true := Hp.out
  have k1 : decide (x.f4 = 1) = true := Hp.out
  go_enter Tryz.func55, Tryz.ntmps55
  go_wp2_with (first | ((with_reducible refine gate_dst (N := 1) rfl ?_); refine box_event ?hg (N := 1) ?hd (cs := #[.int .i64 x.f0, .string x.f1, .int .i64 x.f2, .int .i64 x.f3, .int .i64 x.f4, .int .i64 x.f5, .string x.f6, .slice A x.f7.length c]) (t := 24) ?hr ?_; (case hd => rfl); (case hg => rfl); (case hr => first | (go_simp; done) | (go_simp; rfl)); intro gx hg w1 hbox hb; have HB := Aside0.mk hb; have hq0 : w1.cell? ⟨gx, 0, none⟩ = some (.int .i64 x.f0) := (blk_cell hbox 0).trans rfl; have hq1 : w1.cell? ⟨gx, 1, none⟩ = some (.string x.f1) := (blk_cell hbox 1).trans rfl; have hq2 : w1.cell? ⟨gx, 2, none⟩ = some (.int .i64 x.f2) := (blk_cell hbox 2).trans rfl; have hq3 : w1.cell? ⟨gx, 3, none⟩ = some (.int .i64 x.f3) := (blk_cell hbox 3).trans rfl; have hq4 : w1.cell? ⟨gx, 4, none⟩ = some (.int .i64 x.f4) := (blk_cell hbox 4).trans rfl; have hq5 : w1.cell? ⟨gx, 5, none⟩ = some (.int .i64 x.f5) := (blk_cell hbox 5).trans rfl; have hq6 : w1.cell? ⟨gx, 6, none⟩ = some (.string x.f6) := (blk_cell hbox 6).trans rfl; have hq7 : w1.cell? ⟨gx, 7, none⟩ = some (.slice A x.f7.length c) := (blk_cell hbox 7).trans rfl; clear hg hb hbox))
  refine (ref_calls x.f1 _ (by have := HS.out; omega)).mono ?_
  rintro e w2 ⟨rfl, hb⟩
  have HB2 := Aside0.mk (below_step HB.out hb)
  clear hb
  go_wp2
  go_ret
  exact ⟨by rfl, HB2.out⟩
set_option maxHeartbeats 8000000 in
set_option maxRecDepth 100000 in
theorem isInt_calls (k : Nat) (x : S24) (A : Option Addr) (c : Nat) (r1 : Int) (r2 r3 : Bool) (w : World) (hs : x.f1.size < 4294967281) (h : node_Int.f k x.f1 = some (r1, r2, r3)) :
  Calls Tryz.prog 56 #[.agg #[.int .i64 x.f0, .string x.f1, .int .i64 x.f2, .int .i64 x.f3, .int .i64 x.f4, .int .i64 x.f5, .string x.f6, .slice A x.f7.length c]] w fun e w' => e = .returned (.bool r3) ∧ Below w.heap.size w w' := by
 have HS := Aside0.mk hs
 have H := Aside0.mk h
 clear hs h
 go_enter Tryz.func56, Tryz.ntmps56
 go_wp2_with (first | ((with_reducible refine gate_dst (N := 1) rfl ?_); refine box_event ?hg (N := 1) ?hd (cs := #[.int .i64 x.f0, .string x.f1, .int .i64 x.f2, .int .i64 x.f3, .int .i64 x.f4, .int .i64 x.f5, .string x.f6, .slice A x.f7.length c]) (t := 24) ?hr ?_; (case hd => rfl); (case hg => rfl); (case hr => first | (go_simp; done) | (go_simp; rfl)); intro gx hg w1 hbox hb; have HB := Aside0.mk hb; have hq0 : w1.cell? ⟨gx, 0, none⟩ = some (.int .i64 x.f0) := (blk_cell hbox 0).trans rfl; have hq1 : w1.cell? ⟨gx, 1, none⟩ = some (.string x.f1) := (blk_cell hbox 1).trans rfl; have hq2 : w1.cell? ⟨gx, 2, none⟩ = some (.int .i64 x.f2) := (blk_cell hbox 2).trans rfl; have hq3 : w1.cell? ⟨gx, 3, none⟩ = some (.int .i64 x.f3) := (blk_cell hbox 3).trans rfl; have hq4 : w1.cell? ⟨gx, 4, none⟩ = some (.int .i64 x.f4) := (blk_cell hbox 4).trans rfl; have hq5 : w1.cell? ⟨gx, 5, none⟩ = some (.int .i64 x.f5) := (blk_cell hbox 5).trans rfl; have hq6 : w1.cell? ⟨gx, 6, none⟩ = some (.string x.f6) := (blk_cell hbox 6).trans rfl; have hq7 : w1.cell? ⟨gx, 7, none⟩ = some (.slice A x.f7.length c) := (blk_cell hbox 7).trans rfl; clear hg hb hbox))
 refine (node_Int.calls k x.f1 r1 r2 r3 _ (by have := HS.out; omega) H.out).mono ?_
 rintro e w2 ⟨rfl, hb⟩
 have HB2 := Aside0.mk (below_step HB.out hb)
 clear hb
 go_wp2
 go_ret
 exact ⟨by rfl, HB2.out⟩
end Go.Proofs.YtdkepckkihclgaaGreatDoor.PNodeChecks
namespace Go.Proofs.YtdkepckkihclgaaGreatDoor.PNodeChecks
open Go.RowKit Go.Proofs.YtdkepckkihclgaaGreatDoorW.PrintWords Go.Proofs.YtdkepckkihclgaaGreatDoorW.PrintLast Go.Proofs.YtdkepckkihclgaaGreatDoorW.PrintMore
set_option linter.unusedVariables false
set_option linter.unusedSimpArgs false
def mapKids (l : List S24) : Bool := typedIn 2 l && plainB (rd_T24 l 0).f1
set_option maxHeartbeats 8000000 in
set_option maxRecDepth 100000 in
theorem mapKids_calls (l : List S24) (A : Option Addr) (c : Nat) (w : World) (hr : Kd.C k24 w A l.length l) (hc : l.length ≤ c) :
  Calls Tryz.prog 48 #[.slice A l.length c] w fun e w' => e = .returned (.bool (mapKids l)) ∧ Below w.heap.size w w' := by
 have HR := Aside0.mk hr
 have HC := Aside0.mk hc
 clear hr hc
 cases hk : typedIn 2 l
 ·have HK := Aside0.mk hk
  have hF : Aside0 (mapKids l = false) := ⟨by unfold mapKids; rw [hk]; rfl⟩
  clear hk
  go_enter Tryz.func48, Tryz.ntmps48
  go_wp2_with (fail)
  refine (typed_calls 2 _).mono ?_
  rintro e w1 ⟨rfl, e1⟩
  have HB1 := Aside0.mk (show Below w.heap.size w w1 by rw [e1]; exact below_alloc (Below.refl _ _) _)
  have HN1 : Aside0 (w1.heap[w.heap.size]? = some (.cells #[.int .i64 2] 3 (0, 0))) := ⟨by rw [e1]; exact blk_new w _⟩
  clear e1
  go_wp2_with (fail)
  refine (typed1_calls l _ c 2 w.heap.size _ (Kd.C_below HR.out HB1.out) HC.out (Or.inr rfl) HN1.out).mono ?_
  rintro e w2 ⟨rfl, hb⟩
  have HB2 := Aside0.mk (below_step HB1.out hb)
  clear hb
  rw [HK.out]
  go_wp2
  go_ret
  exact ⟨by rw [hF.out]; rfl, HB2.out⟩
 ·have HK := Aside0.mk hk
  have hl2 : 2 ≤ l.length := by
   have h2 := hk
   unfold typedIn at h2
   rw [Bool.and_eq_true, decide_eq_true_eq] at h2
   exact h2.1
  have hF : Aside0 (mapKids l = plainB (rd_T24 l 0).f1) := ⟨by unfold mapKids; rw [hk]; rfl⟩
  clear hk
  obtain ⟨ad, A7, c7, e, hx0, hx1, hx2, hx3, hx4, hx5, hx6, hx7, hl7, hi7⟩ := at_T24 HR.out 0 (by omega) (by omega)
  cases e
  obtain ⟨x, hx⟩ : ∃ x, rd_T24 l 0 = x := ⟨_, rfl⟩
  have had : ad.add 0 = ad := by simp [Addr.add]
  rw [hx] at hx1 hF
  simp only [Int.toNat_zero, Nat.zero_mul, had] at hx1
  have hn0 : 0 < l.length := by omega
  have hn0b : decide (0 < l.length) = true := decide_eq_true hn0
  clear hl7 hi7 had hx hx0 hx2 hx3 hx4 hx5 hx6 hx7
  go_enter Tryz.func48, Tryz.ntmps48
  go_wp2_with (fail)
  refine (typed_calls 2 _).mono ?_
  rintro e w1 ⟨rfl, e1⟩
  have HB1 := Aside0.mk (show Below w.heap.size w w1 by rw [e1]; exact below_alloc (Below.refl _ _) _)
  have HN1 : Aside0 (w1.heap[w.heap.size]? = some (.cells #[.int .i64 2] 3 (0, 0))) := ⟨by rw [e1]; exact blk_new w _⟩
  clear e1
  go_wp2_with (fail)
  refine (typed1_calls l _ c 2 w.heap.size _ (Kd.C_below HR.out HB1.out) HC.out (Or.inr rfl) HN1.out).mono ?_
  rintro e w2 ⟨rfl, hb⟩
  have HB2 := Aside0.mk (below_step HB1.out hb)
  clear hb
  rw [HK.out]
  have hy1 := (HB2.out.cell (World.block_lt_of_cell? w _ hx1)).trans hx1
  go_wp2_with (fail)
  refine (Plain_calls x.f1 _).mono ?_
  rintro e w3 ⟨rfl, hb⟩
  have HB3 := Aside0.mk (below_step HB2.out hb)
  clear hb
  go_wp2
  go_ret
  exact ⟨by rw [hF.out]; rfl, HB3.out⟩
end Go.Proofs.YtdkepckkihclgaaGreatDoor.PNodeChecks
namespace Go.Proofs.YtdkepckkihclgaaGreatDoor.PNodeChecks
open Go.RowKit Go.Proofs.YtdkepckkihclgaaGreatDoorW.PrintWords Go.Proofs.YtdkepckkihclgaaGreatDoorW.PrintLast Go.Proofs.YtdkepckkihclgaaGreatDoorW.PrintMore
set_option linter.unusedVariables false
set_option linter.unusedSimpArgs false
def textB (k : Nat) (kd : Int) (x : S24) : Option Bool := if kd = 1 then some ((x.f1.toList == ([] : List UInt8)) || ((x.f1.toList == ([112, 114, 111, 116, 111, 50] : List UInt8)) || (x.f1.toList == ([112, 114, 111, 116, 111, 51] : List UInt8)))) else if kd = 2 then some (decide (x.f1.size ≤ 1000)) else if kd = 3 then some (fullB x.f1) else if kd = 4 then some (x.f1.toList == ([] : List UInt8)) else if kd = 5 then some (identB x.f1) else if kd = 6 then some (identB x.f1) else if kd = 7 then some (namedB x.f1) else if kd = 8 then some (identB x.f1) else if kd = 9 then some (identB x.f1) else if kd = 10 then some (identB x.f1) else if kd = 11 then some (identB x.f1) else if kd = 12 then some (x.f1.toList == ([] : List UInt8)) else if kd = 13 then some (x.f1.toList == ([] : List UInt8)) else if kd = 14 then some (x.f1.toList == ([] : List UInt8)) else if kd = 15 then some (identB x.f1) else if kd = 16 then some (identB x.f1 && (!(x.f1.toList == ([111, 112, 116, 105, 111, 110] : List UInt8)) && !(x.f1.toList == ([114, 101, 115, 101, 114, 118, 101, 100] : List UInt8)))) else if kd = 17 then some (identB x.f1) else if kd = 18 then some (plainB x.f1 || namedB x.f1) else if kd = 19 then some (if (x.f4 == 1) = true then refB x.f1 else identB x.f1) else if kd = 20 then (node_Int.f k x.f1).map fun t => t.2.2 else if kd = 21 then some (identB x.f1) else if kd = 22 then some (decide (x.f1.size ≤ 10000)) else if kd = 23 then some (x.f1.toList == ([] : List UInt8)) else if kd = 24 then some (if (x.f4 == 1) = true then refB x.f1 else identB x.f1) else none
def numsB (k : Nat) (kd : Int) (x : S24) : Option Bool := if kd = 1 then some true else if kd = 2 then some true else if kd = 3 then some true else if kd = 4 then some true else if kd = 5 then some true else if kd = 6 then some true else if kd = 7 then some true else if kd = 8 then some true else if kd = 9 then some (decide (0 ≤ x.f2) && decide (x.f2 ≤ 2147483647)) else if kd = 10 then some (decide (0 ≤ x.f2) && decide (x.f2 ≤ 2147483647)) else if kd = 11 then some true else if kd = 12 then some true else if kd = 13 then some true else if kd = 14 then some (decide (0 ≤ x.f2) && decide (x.f2 ≤ 2147483647) && (decide (0 ≤ x.f3) && decide (x.f3 ≤ 2147483647))) else if kd = 15 then some true else if kd = 16 then some (decide ((-2147483648) ≤ x.f2) && decide (x.f2 ≤ 2147483647)) else if kd = 17 then some true else if kd = 18 then some true else if kd = 19 then some true else if kd = 20 then some true else if kd = 21 then some true else if kd = 22 then some true else if kd = 23 then some true else if kd = 24 then some true else none
def kidsB (k : Nat) (kd : Int) (l : List S24) : Option Bool := if kd = 1 then fileKids k l else if kd = 2 then some (decide (l.length = 0)) else if kd = 3 then some (decide (l.length = 0)) else if kd = 4 then some (optIn l) else if kd = 5 then some (allIn [9, 10, 5, 6, 7, 12, 13, 11, 4] l) else if kd = 6 then some (allIn [16, 4] l) else if kd = 7 then some (allIn [9] l) else if kd = 8 then some (allIn [17, 4] l) else if kd = 9 then some (typedIn 1 l) else if kd = 10 then some (mapKids l) else if kd = 11 then blockKids k l else if kd = 12 then some (oneIn [14] l) else if kd = 13 then some (oneIn [14, 15] l) else if kd = 14 then some (decide (l.length = 0)) else if kd = 15 then some (decide (l.length = 0)) else if kd = 16 then some (allIn [4] l) else if kd = 17 then some (typedIn 2 l) else if kd = 18 then some (decide (l.length = 0)) else if kd = 19 then some (decide (l.length = 0)) else if kd = 20 then some (decide (l.length = 0)) else if kd = 21 then some (decide (l.length = 0)) else if kd = 22 then some (decide (l.length = 0)) else if kd = 23 then some (allIn [24] l) else if kd = 24 then some (soleKid l) else none
def mkB (kd : Int) : Int := if kd = 1 then 0 else if kd = 2 then 1 else if kd = 3 then 0 else if kd = 4 then 0 else if kd = 5 then 0 else if kd = 6 then 0 else if kd = 7 then 0 else if kd = 8 then 0 else if kd = 9 then 3 else if kd = 10 then 0 else if kd = 11 then 0 else if kd = 12 then 0 else if kd = 13 then 0 else if kd = 14 then 0 else if kd = 15 then 0 else if kd = 16 then 0 else if kd = 17 then 3 else if kd = 18 then 0 else if kd = 19 then 1 else if kd = 20 then 0 else if kd = 21 then 0 else if kd = 22 then 0 else if kd = 23 then 0 else if kd = 24 then 1 else 0
def dcB (kd : Int) : Bool := if kd = 1 then false else if kd = 2 then false else if kd = 3 then false else if kd = 4 then false else if kd = 5 then true else if kd = 6 then true else if kd = 7 then false else if kd = 8 then true else if kd = 9 then true else if kd = 10 then true else if kd = 11 then true else if kd = 12 then false else if kd = 13 then false else if kd = 14 then false else if kd = 15 then false else if kd = 16 then true else if kd = 17 then true else if kd = 18 then false else if kd = 19 then false else if kd = 20 then false else if kd = 21 then false else if kd = 22 then false else if kd = 23 then false else if kd = 24 then false else false
def MaxAt (w : World) : Prop := ∃ m, w.cell? ⟨0, 0, none⟩ = some (.int .i64 m)
theorem MaxAt.below {w w' : World} (h : MaxAt w) (hb : Below w.heap.size w w') : MaxAt w' := by
 obtain ⟨m, hm⟩ := h
 exact ⟨m, (hb.cell (World.block_lt_of_cell? w _ hm)).trans hm⟩
def FnN (v : Value) (p : Nat → S24 → Option Bool) : Prop := ∃ f fn, v = .func (.func f) #[] #[] ∧ Tryz.prog.funcs[f]? = some fn ∧ (fn.name == "runtime.NumGoroutine") = false ∧ fn.body.isSome = true ∧
 ∀ (k : Nat) (x : S24) (A : Option Addr) (c : Nat) (r : Bool) (w2 : World), MaxAt w2 → x.f1.size < 4294967281 → p k x = some r →
  Calls Tryz.prog f #[.agg #[.int .i64 x.f0, .string x.f1, .int .i64 x.f2, .int .i64 x.f3, .int .i64 x.f4, .int .i64 x.f5, .string x.f6, .slice A x.f7.length c]] w2 fun e w' => e = .returned (.bool r) ∧ Below w2.heap.size w2 w'
def FnK (W : World) (v : Value) (p : Nat → List S24 → Option Bool) : Prop := ∃ (f : FuncId) (fn : Func) (cap : Array Value) (S : Nat → Prop), v = .func (.func f) #[] cap ∧ Tryz.prog.funcs[f]? = some fn ∧ (fn.name == "runtime.NumGoroutine") = false ∧ fn.body.isSome = true ∧
 (∀ k, S k → ∃ cs t, t ≠ 33 ∧ W.heap[k]? = some (.cells cs t (0, 0))) ∧
 ∀ (k : Nat) (l : List S24) (A : Option Addr) (c : Nat) (r : Bool) (w2 : World), (∀ k, S k → w2.heap[k]? = W.heap[k]?) → Kd.C k24 w2 A l.length l → l.length ≤ c → p k l = some r →
  Calls Tryz.prog f (#[.slice A l.length c] ++ cap) w2 fun e w' => e = .returned (.bool r) ∧ Below w2.heap.size w2 w'
theorem FnN.to {v : Value} {p q : Nat → S24 → Option Bool} (h : FnN v p) (e : ∀ k x, q k x = p k x) : FnN v q := by
 have : q = p := funext fun k => funext fun x => e k x
 exact this ▸ h
theorem FnK.to {W : World} {v : Value} {p q : Nat → List S24 → Option Bool} (h : FnK W v p) (e : ∀ k x, q k x = p k x) : FnK W v q := by
 have : q = p := funext fun k => funext fun x => e k x
 exact this ▸ h
theorem FnK.kept {W W' : World} {v : Value} {p : Nat → List S24 → Option Bool} (h : FnK W v p) (hk : ∀ (k : Nat) (cs : Array Value) (t : TypeId), t ≠ 33 → W.heap[k]? = some (Obj.cells cs t (0, 0)) → W'.heap[k]? = some (Obj.cells cs t (0, 0))) : FnK W' v p := by
 obtain ⟨f, fn, cap, S, h1, h2, h3, h4, hS, h5⟩ := h
 refine ⟨f, fn, cap, S, h1, h2, h3, h4, fun k s => ?_, fun k l A c r w2 hb2 => h5 k l A c r w2 (fun j s => ?_)⟩
 ·obtain ⟨cs, t, ht, e⟩ := hS k s
  exact ⟨cs, t, ht, hk k cs t ht e⟩
 ·obtain ⟨cs, t, ht, e⟩ := hS j s
  rw [hb2 j s, e]; exact hk j cs t ht e
theorem FnK.below {W W' : World} {v : Value} {p : Nat → List S24 → Option Bool} (h : FnK W v p) (hb : Below W.heap.size W W') : FnK W' v p := h.kept fun k cs t ht e => blk_below e hb
theorem FnK.far {W : World} {v : Value} {p : Nat → List S24 → Option Bool} {g : Nat} {cs : Array Value} (h : FnK W v p) (hg : W.heap[g]? = some (.cells cs 33 (0, 0))) (j : Nat) (x : Value) : FnK (W.setCell ⟨g, j, none⟩ x) v p :=
 h.kept fun k cs t ht e => blk_far (p := ⟨g, j, none⟩) e (blk_ne e hg ht) _
theorem AnyAt.same {W W' : World} {b g : Nat} {ks : List Int} (h : AnyAt W b g ks) (h1 : W'.heap[b]? = W.heap[b]?) (h2 : W'.heap[g]? = W.heap[g]?) : AnyAt W' b g ks :=
 ⟨h.n, h1.trans h.b, fun j hj => by have := h.c j hj; simpa [World.cell?, h2] using this⟩
theorem fn_30 : FnN (.func (.func 30) #[] #[]) (fun k x => some (decide (x.f1.size ≤ 1000))) :=
 ⟨30, _, rfl, Tryz.func30, by kernel_rfl, by kernel_rfl, fun k x A c r w2 hm hs h => by
  obtain rfl := Option.some.inj h
  exact atMost1_calls x A c w2 hs⟩
theorem fn_33 : FnN (.func (.func 33) #[] #[]) (fun k x => some (fullB x.f1)) :=
 ⟨33, _, rfl, Tryz.func33, by kernel_rfl, by kernel_rfl, fun k x A c r w2 hm hs h => by
  obtain rfl := Option.some.inj h
  exact isFull_calls x A c w2 hs⟩
theorem fn_35 : FnN (.func (.func 35) #[] #[]) (fun k x => some (x.f1.toList == ([] : List UInt8))) :=
 ⟨35, _, rfl, Tryz.func35, by kernel_rfl, by kernel_rfl, fun k x A c r w2 hm hs h => by
  obtain rfl := Option.some.inj h
  exact nothing_calls x A c w2⟩
theorem fn_39 : FnN (.func (.func 39) #[] #[]) (fun k x => some ((x.f1.toList == ([] : List UInt8)) || ((x.f1.toList == ([112, 114, 111, 116, 111, 50] : List UInt8)) || (x.f1.toList == ([112, 114, 111, 116, 111, 51] : List UInt8))))) :=
 ⟨39, _, rfl, Tryz.func39, by kernel_rfl, by kernel_rfl, fun k x A c r w2 hm hs h => by
  obtain rfl := Option.some.inj h
  exact isSyntax_calls x A c w2⟩
theorem fn_42 : FnN (.func (.func 42) #[] #[]) (fun k x => some (identB x.f1)) :=
 ⟨42, _, rfl, Tryz.func42, by kernel_rfl, by kernel_rfl, fun k x A c r w2 hm hs h => by
  obtain rfl := Option.some.inj h
  exact isIdent_calls x A c w2 hs⟩
theorem fn_43 : FnN (.func (.func 43) #[] #[]) (fun k x => some (namedB x.f1)) :=
 ⟨43, _, rfl, Tryz.func43, by kernel_rfl, by kernel_rfl, fun k x A c r w2 hm hs h => by
  obtain rfl := Option.some.inj h
  exact isNamed_calls x A c w2 hs hm⟩
theorem fn_52 : FnN (.func (.func 52) #[] #[]) (fun k x => some (identB x.f1 && (!(x.f1.toList == ([111, 112, 116, 105, 111, 110] : List UInt8)) && !(x.f1.toList == ([114, 101, 115, 101, 114, 118, 101, 100] : List UInt8))))) :=
 ⟨52, _, rfl, Tryz.func52, by kernel_rfl, by kernel_rfl, fun k x A c r w2 hm hs h => by
  obtain rfl := Option.some.inj h
  exact valueName_calls x A c w2 hs⟩
theorem fn_54 : FnN (.func (.func 54) #[] #[]) (fun k x => some (plainB x.f1 || namedB x.f1)) :=
 ⟨54, _, rfl, Tryz.func54, by kernel_rfl, by kernel_rfl, fun k x A c r w2 hm hs h => by
  obtain rfl := Option.some.inj h
  exact typeText_calls x A c w2 hs hm⟩
theorem fn_55 : FnN (.func (.func 55) #[] #[]) (fun k x => some (if (x.f4 == 1) = true then refB x.f1 else identB x.f1)) :=
 ⟨55, _, rfl, Tryz.func55, by kernel_rfl, by kernel_rfl, fun k x A c r w2 hm hs h => by
  obtain rfl := Option.some.inj h
  exact optName_calls x A c w2 hs⟩
theorem fn_56 : FnN (.func (.func 56) #[] #[]) (fun k x => (node_Int.f k x.f1).map fun t => t.2.2) :=
 ⟨56, _, rfl, Tryz.func56, by kernel_rfl, by kernel_rfl, fun k x A c r w2 hm hs h => by
  obtain ⟨⟨r1, r2, r3⟩, h1, h2⟩ := Option.map_eq_some_iff.mp h
  obtain rfl : r3 = r := h2
  exact isInt_calls k x A c r1 r2 r3 w2 hs h1⟩
theorem fn_58 : FnN (.func (.func 58) #[] #[]) (fun k x => some (decide (x.f1.size ≤ 10000))) :=
 ⟨58, _, rfl, Tryz.func58, by kernel_rfl, by kernel_rfl, fun k x A c r w2 hm hs h => by
  obtain rfl := Option.some.inj h
  exact atMost2_calls x A c w2 hs⟩
theorem fn_31 : FnN (.func (.func 31) #[] #[]) (fun k x => some true) :=
 ⟨31, _, rfl, Tryz.func31, by kernel_rfl, by kernel_rfl, fun k x A c r w2 hm hs h => by
  obtain rfl := Option.some.inj h
  exact numberless_calls x A c w2⟩
theorem fn_47 : FnN (.func (.func 47) #[] #[]) (fun k x => some (decide (0 ≤ x.f2) && decide (x.f2 ≤ 2147483647))) :=
 ⟨47, _, rfl, Tryz.func47, by kernel_rfl, by kernel_rfl, fun k x A c r w2 hm hs h => by
  obtain rfl := Option.some.inj h
  exact positive_calls x A c w2⟩
theorem fn_53 : FnN (.func (.func 53) #[] #[]) (fun k x => some (decide ((-2147483648) ≤ x.f2) && decide (x.f2 ≤ 2147483647))) :=
 ⟨53, _, rfl, Tryz.func53, by kernel_rfl, by kernel_rfl, fun k x A c r w2 hm hs h => by
  obtain rfl := Option.some.inj h
  exact enumNum_calls x A c w2⟩
theorem fn_51 : FnN (.func (.func 51) #[] #[]) (fun k x => some (decide (0 ≤ x.f2) && decide (x.f2 ≤ 2147483647) && (decide (0 ≤ x.f3) && decide (x.f3 ≤ 2147483647)))) :=
 ⟨51, _, rfl, Tryz.func51, by kernel_rfl, by kernel_rfl, fun k x A c r w2 hm hs h => by
  obtain rfl := Option.some.inj h
  exact rangeNum_calls x A c w2⟩
theorem fn_40 (W : World) : FnK W (.func (.func 40) #[] #[]) (fun k l => fileKids k l) :=
 ⟨40, _, #[], fun _ => False, rfl, Tryz.func40, by kernel_rfl, by kernel_rfl, fun _ s => s.elim, fun k l A c r w2 _ hC hc h => fileKids_calls k l A c r w2 hC hc h⟩
theorem fn_32 (W : World) : FnK W (.func (.func 32) #[] #[]) (fun k l => some (decide (l.length = 0))) :=
 ⟨32, _, #[], fun _ => False, rfl, Tryz.func32, by kernel_rfl, by kernel_rfl, fun _ s => s.elim, fun k l A c r w2 _ hC hc h => by
  obtain rfl := Option.some.inj h
  exact childless_calls l A c w2⟩
theorem fn_36 (W : World) : FnK W (.func (.func 36) #[] #[]) (fun k l => some (optIn l)) :=
 ⟨36, _, #[], fun _ => False, rfl, Tryz.func36, by kernel_rfl, by kernel_rfl, fun _ s => s.elim, fun k l A c r w2 _ hC hc h => by
  obtain rfl := Option.some.inj h
  exact opt_calls l A c w2 hC hc⟩
theorem fn_45 (W : World) : FnK W (.func (.func 45) #[] #[]) (fun k l => blockKids k l) :=
 ⟨45, _, #[], fun _ => False, rfl, Tryz.func45, by kernel_rfl, by kernel_rfl, fun _ s => s.elim, fun k l A c r w2 _ hC hc h => blockKids_calls k l A c r w2 hC hc h⟩
theorem fn_48 (W : World) : FnK W (.func (.func 48) #[] #[]) (fun k l => some (mapKids l)) :=
 ⟨48, _, #[], fun _ => False, rfl, Tryz.func48, by kernel_rfl, by kernel_rfl, fun _ s => s.elim, fun k l A c r w2 _ hC hc h => by
  obtain rfl := Option.some.inj h
  exact mapKids_calls l A c w2 hC hc⟩
theorem fn_59 (W : World) : FnK W (.func (.func 59) #[] #[]) (fun k l => some (soleKid l)) :=
 ⟨59, _, #[], fun _ => False, rfl, Tryz.func59, by kernel_rfl, by kernel_rfl, fun _ s => s.elim, fun k l A c r w2 _ hC hc h => by
  obtain rfl := Option.some.inj h
  exact soleKid_calls l A c w2 hC⟩
theorem fn_any (W : World) (b g : Nat) (ks : List Int) (cs : Array Value) (hA : AnyAt W b g ks) (hg : W.heap[g]? = some (.cells cs 3 (0, 0))) : FnK W (.func (.func 70) #[] #[.pointer (some ⟨b, 0, none⟩)]) (fun k l => some (allIn ks l)) :=
 ⟨70, _, #[.pointer (some ⟨b, 0, none⟩)], fun k => k = b ∨ k = g, rfl, Tryz.func70, by kernel_rfl, by kernel_rfl, (fun k s => s.elim (fun e => e ▸ ⟨_, _, by decide, hA.b⟩) (fun e => e ▸ ⟨_, _, by decide, hg⟩)), fun k l A c r w2 hb hC hc h => by
  obtain rfl := Option.some.inj h
  exact any1_calls l A c b g ks w2 hC hc (hA.same (hb b (.inl rfl)) (hb g (.inr rfl)))⟩
theorem fn_one (W : World) (b g : Nat) (ks : List Int) (cs : Array Value) (hA : AnyAt W b g ks) (hg : W.heap[g]? = some (.cells cs 3 (0, 0))) : FnK W (.func (.func 79) #[] #[.pointer (some ⟨b, 0, none⟩)]) (fun k l => some (oneIn ks l)) :=
 ⟨79, _, #[.pointer (some ⟨b, 0, none⟩)], fun k => k = b ∨ k = g, rfl, Tryz.func79, by kernel_rfl, by kernel_rfl, (fun k s => s.elim (fun e => e ▸ ⟨_, _, by decide, hA.b⟩) (fun e => e ▸ ⟨_, _, by decide, hg⟩)), fun k l A c r w2 hb hC hc h => by
  obtain rfl := Option.some.inj h
  exact one1_calls l A c b g ks w2 hC hc (hA.same (hb b (.inl rfl)) (hb g (.inr rfl)))⟩
theorem fn_typed (W : World) (b n : Nat) (hn : n = 1 ∨ n = 2) (hA : W.heap[b]? = some (.cells #[.int .i64 n] 3 (0, 0))) : FnK W (.func (.func 80) #[] #[.pointer (some ⟨b, 0, none⟩)]) (fun k l => some (typedIn n l)) :=
 ⟨80, _, #[.pointer (some ⟨b, 0, none⟩)], fun k => k = b, rfl, Tryz.func80, by kernel_rfl, by kernel_rfl, (by rintro k rfl; exact ⟨_, _, by decide, hA⟩), fun k l A c r w2 hb hC hc h => by
  obtain rfl := Option.some.inj h
  exact typed1_calls l A c n b w2 hC hc hn ((hb b rfl).trans hA)⟩
structure Shp (W : World) (kd : Int) (T Nf K : Value) : Prop where
 t : FnN T (fun k x => textB k kd x)
 n : FnN Nf (fun k x => numsB k kd x)
 k : FnK W K (fun k l => kidsB k kd l)
theorem Shp.below {W W' : World} {kd : Int} {T Nf K : Value} (h : Shp W kd T Nf K) (hb : Below W.heap.size W W') : Shp W' kd T Nf K := ⟨h.t, h.n, h.k.below hb⟩
theorem Shp.far {W : World} {kd : Int} {T Nf K : Value} {g : Nat} {cs : Array Value} (h : Shp W kd T Nf K) (hg : W.heap[g]? = some (.cells cs 33 (0, 0))) (j : Nat) (x : Value) : Shp (W.setCell ⟨g, j, none⟩ x) kd T Nf K := ⟨h.t, h.n, h.k.far hg j x⟩
def OfPostS (kd : Int) (w : World) (e : Ending) (w' : World) : Prop := ∃ T Nf K, e = .returned (.agg #[T, Nf, K, .int .i64 (mkB kd), .bool (dcB kd)]) ∧ Shp w' kd T Nf K ∧ Below w.heap.size w w'
def ShPost (kd : Int) (w : World) (e : Ending) (w' : World) : Prop := ∃ T Nf K, e = .returned (.tuple #[.agg #[T, Nf, K, .int .i64 (mkB kd), .bool (dcB kd)], .bool true]) ∧ Shp w' kd T Nf K ∧ Below w.heap.size w w'
theorem putS {w0 w : World} {g : Nat} {kd : Int} (v0 v1 v2 v3 v4 : Value) {z0 z1 z2 z3 z4 : Value} (hX : w.heap[g]? = some (.cells #[z0, z1, z2, z3, z4] 33 (0, 0))) (hB : Below w0.heap.size w0 w) (hG : w0.heap.size ≤ g) (hS : Shp w kd v0 v1 v2) :
  ∃ wf, (((((w.setCell ⟨g, 0, none⟩ v0).setCell ⟨g, 1, none⟩ v1).setCell ⟨g, 2, none⟩ v2).setCell ⟨g, 3, none⟩ v3).setCell ⟨g, 4, none⟩ v4) = wf ∧ wf.heap[g]? = some (.cells #[v0, v1, v2, v3, v4] 33 (0, 0)) ∧ Below w0.heap.size w0 wf ∧ Shp wf kd v0 v1 v2 := by
 refine ⟨_, rfl, ?_, (below_set (below_set (below_set (below_set (below_set hB hG (j := 0)) hG (j := 1)) hG (j := 2)) hG (j := 3)) hG (j := 4)), (((((hS.far hX 0 v0).far (blk_put hX 0 _ rfl) 1 v1).far (blk_put (blk_put hX 0 _ rfl) 1 _ rfl) 2 v2).far (blk_put (blk_put (blk_put hX 0 _ rfl) 1 _ rfl) 2 _ rfl) 3 v3).far (blk_put (blk_put (blk_put (blk_put hX 0 _ rfl) 1 _ rfl) 2 _ rfl) 3 _ rfl) 4 v4)⟩
 exact (blk_put (blk_put (blk_put (blk_put (blk_put hX 0 _ rfl) 1 _ rfl) 2 _ rfl) 3 _ rfl) 4 _ rfl)
end Go.Proofs.YtdkepckkihclgaaGreatDoor.PNodeChecks

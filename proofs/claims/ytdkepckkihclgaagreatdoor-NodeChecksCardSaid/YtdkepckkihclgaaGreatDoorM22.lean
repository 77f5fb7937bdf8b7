import Derived.Test.YtdkepckkihclgaaGreatDoorM21
import Derived.Laws.EntriesVeiled
namespace Go.Proofs.YtdkepckkihclgaaGreatDoor.PNodeChecks
open Go.RowKit Go.Proofs.YtdkepckkihclgaaGreatDoorW.PrintWords Go.Proofs.YtdkepckkihclgaaGreatDoorW.PrintLast Go.Proofs.YtdkepckkihclgaaGreatDoorW.PrintMore
set_option linter.unusedVariables false
set_option linter.unusedSimpArgs false
theorem AnyAt.far {W : World} {b g0 g : Nat} {ks : List Int} (h : AnyAt W b g0 ks) (h1 : b ≠ g) (h2 : g0 ≠ g) (j : Nat) (x : Value) : AnyAt (W.setCell ⟨g, j, none⟩ x) b g0 ks :=
 ⟨h.n, blk_far h.b h1 _, fun i hi => (cell_far (p := ⟨g, j, none⟩) h2 _).trans (h.c i hi)⟩
set_option maxHeartbeats 8000000 in
set_option maxRecDepth 100000 in
theorem of_1 (w : World) : Calls Tryz.prog 22 #[.int .i64 1] w (OfPostS 1 w) := by
 go_enter Tryz.func22, Tryz.ntmps22
 go_wp2_with (first | ((with_reducible refine gate_dst (N := 2) rfl ?_); refine box_event ?hg (N := 2) ?hd (cs := #[.nilFunc, .nilFunc, .nilFunc, .int .i64 0, .bool false]) (t := 33) ?hr ?_; (case hd => rfl); (case hg => rfl); (case hr => first | (go_simp; done) | (go_simp; rfl)); intro g hg w1 hbox hb; have HG := Aside0.mk (show w.heap.size ≤ g by rw [hg]; exact Nat.le_refl _); have HB1 := Aside0.mk hb; have HX1 := Aside0.mk hbox; obtain ⟨hz0, hzf0, hz1, hzf1, hz2, hzf2, hz3, hzf3, hz4, hzf4⟩ := cells5 hbox; clear hbox hb hg))
 have HS0 := (⟨fn_39.to (fun k x => by simp [textB]), fn_31.to (fun k x => by simp [numsB]), ((fn_40 w1)).to (fun k l => by simp [kidsB])⟩ : Shp w1 1 _ _ _)
 go_wp2
 obtain ⟨wf, hwf, hF, HBf, HSf⟩ := putS (.func (.func 39) #[] #[]) (.func (.func 31) #[] #[]) (.func (.func 40) #[] #[]) (.int .i64 0) (.bool false) HX1.out HB1.out HG.out HS0
 rw [hwf]
 obtain ⟨hcf0, _, hcf1, _, hcf2, _, hcf3, _, hcf4, _⟩ := cells5 hF
 refine bodyPost_ret (v := .agg #[.func (.func 39) #[] #[], .func (.func 31) #[] #[], .func (.func 40) #[] #[], .int .i64 0, .bool false]) ?_ rfl ⟨_, _, _, rfl, HSf, HBf⟩
 simp [results, Tryz.results22, go_sem, hcf0, hcf1, hcf2, hcf3, hcf4]
set_option maxHeartbeats 8000000 in
set_option maxRecDepth 100000 in
theorem of_2 (w : World) : Calls Tryz.prog 22 #[.int .i64 2] w (OfPostS 2 w) := by
 go_enter Tryz.func22, Tryz.ntmps22
 go_wp2_with (first | ((with_reducible refine gate_dst (N := 2) rfl ?_); refine box_event ?hg (N := 2) ?hd (cs := #[.nilFunc, .nilFunc, .nilFunc, .int .i64 0, .bool false]) (t := 33) ?hr ?_; (case hd => rfl); (case hg => rfl); (case hr => first | (go_simp; done) | (go_simp; rfl)); intro g hg w1 hbox hb; have HG := Aside0.mk (show w.heap.size ≤ g by rw [hg]; exact Nat.le_refl _); have HB1 := Aside0.mk hb; have HX1 := Aside0.mk hbox; obtain ⟨hz0, hzf0, hz1, hzf1, hz2, hzf2, hz3, hzf3, hz4, hzf4⟩ := cells5 hbox; clear hbox hb hg))
 have HS0 := (⟨fn_30.to (fun k x => by simp [textB]), fn_31.to (fun k x => by simp [numsB]), ((fn_32 w1)).to (fun k l => by simp [kidsB])⟩ : Shp w1 2 _ _ _)
 go_wp2
 obtain ⟨wf, hwf, hF, HBf, HSf⟩ := putS (.func (.func 30) #[] #[]) (.func (.func 31) #[] #[]) (.func (.func 32) #[] #[]) (.int .i64 1) (.bool false) HX1.out HB1.out HG.out HS0
 rw [hwf]
 obtain ⟨hcf0, _, hcf1, _, hcf2, _, hcf3, _, hcf4, _⟩ := cells5 hF
 refine bodyPost_ret (v := .agg #[.func (.func 30) #[] #[], .func (.func 31) #[] #[], .func (.func 32) #[] #[], .int .i64 1, .bool false]) ?_ rfl ⟨_, _, _, rfl, HSf, HBf⟩
 simp [results, Tryz.results22, go_sem, hcf0, hcf1, hcf2, hcf3, hcf4]
set_option maxHeartbeats 8000000 in
set_option maxRecDepth 100000 in
theorem of_3 (w : World) : Calls Tryz.prog 22 #[.int .i64 3] w (OfPostS 3 w) := by
 go_enter Tryz.func22, Tryz.ntmps22
 go_wp2_with (first | ((with_reducible refine gate_dst (N := 2) rfl ?_); refine box_event ?hg (N := 2) ?hd (cs := #[.nilFunc, .nilFunc, .nilFunc, .int .i64 0, .bool false]) (t := 33) ?hr ?_; (case hd => rfl); (case hg => rfl); (case hr => first | (go_simp; done) | (go_simp; rfl)); intro g hg w1 hbox hb; have HG := Aside0.mk (show w.heap.size ≤ g by rw [hg]; exact Nat.le_refl _); have HB1 := Aside0.mk hb; have HX1 := Aside0.mk hbox; obtain ⟨hz0, hzf0, hz1, hzf1, hz2, hzf2, hz3, hzf3, hz4, hzf4⟩ := cells5 hbox; clear hbox hb hg))
 have HS0 := (⟨fn_33.to (fun k x => by simp [textB]), fn_31.to (fun k x => by simp [numsB]), ((fn_32 w1)).to (fun k l => by simp [kidsB])⟩ : Shp w1 3 _ _ _)
 go_wp2
 obtain ⟨wf, hwf, hF, HBf, HSf⟩ := putS (.func (.func 33) #[] #[]) (.func (.func 31) #[] #[]) (.func (.func 32) #[] #[]) (.int .i64 0) (.bool false) HX1.out HB1.out HG.out HS0
 rw [hwf]
 obtain ⟨hcf0, _, hcf1, _, hcf2, _, hcf3, _, hcf4, _⟩ := cells5 hF
 refine bodyPost_ret (v := .agg #[.func (.func 33) #[] #[], .func (.func 31) #[] #[], .func (.func 32) #[] #[], .int .i64 0, .bool false]) ?_ rfl ⟨_, _, _, rfl, HSf, HBf⟩
 simp [results, Tryz.results22, go_sem, hcf0, hcf1, hcf2, hcf3, hcf4]
set_option maxHeartbeats 8000000 in
set_option maxRecDepth 100000 in
theorem of_4 (w : World) : Calls Tryz.prog 22 #[.int .i64 4] w (OfPostS 4 w) := by
 go_enter Tryz.func22, Tryz.ntmps22
 go_wp2_with (first | ((with_reducible refine gate_dst (N := 2) rfl ?_); refine box_event ?hg (N := 2) ?hd (cs := #[.nilFunc, .nilFunc, .nilFunc, .int .i64 0, .bool false]) (t := 33) ?hr ?_; (case hd => rfl); (case hg => rfl); (case hr => first | (go_simp; done) | (go_simp; rfl)); intro g hg w1 hbox hb; have HG := Aside0.mk (show w.heap.size ≤ g by rw [hg]; exact Nat.le_refl _); have HB1 := Aside0.mk hb; have HX1 := Aside0.mk hbox; obtain ⟨hz0, hzf0, hz1, hzf1, hz2, hzf2, hz3, hzf3, hz4, hzf4⟩ := cells5 hbox; clear hbox hb hg))
 have HS0 := (⟨fn_35.to (fun k x => by simp [textB]), fn_31.to (fun k x => by simp [numsB]), ((fn_36 w1)).to (fun k l => by simp [kidsB])⟩ : Shp w1 4 _ _ _)
 go_wp2
 obtain ⟨wf, hwf, hF, HBf, HSf⟩ := putS (.func (.func 35) #[] #[]) (.func (.func 31) #[] #[]) (.func (.func 36) #[] #[]) (.int .i64 0) (.bool false) HX1.out HB1.out HG.out HS0
 rw [hwf]
 obtain ⟨hcf0, _, hcf1, _, hcf2, _, hcf3, _, hcf4, _⟩ := cells5 hF
 refine bodyPost_ret (v := .agg #[.func (.func 35) #[] #[], .func (.func 31) #[] #[], .func (.func 36) #[] #[], .int .i64 0, .bool false]) ?_ rfl ⟨_, _, _, rfl, HSf, HBf⟩
 simp [results, Tryz.results22, go_sem, hcf0, hcf1, hcf2, hcf3, hcf4]
set_option maxHeartbeats 8000000 in
set_option maxRecDepth 100000 in
theorem of_5 (w : World) : Calls Tryz.prog 23 #[.int .i64 5] w (OfPostS 5 w) := by
 go_enter Tryz.func23, Tryz.ntmps23
 go_wp2_with (first | ((with_reducible refine gate_dst (N := 2) rfl ?_); refine box_event ?hg (N := 2) ?hd (cs := #[.nilFunc, .nilFunc, .nilFunc, .int .i64 0, .bool false]) (t := 33) ?hr ?_; (case hd => rfl); (case hg => rfl); (case hr => first | (go_simp; done) | (go_simp; rfl)); intro g hg w1 hbox hb; have HG := Aside0.mk (show w.heap.size ≤ g by rw [hg]; exact Nat.le_refl _); have HB1 := Aside0.mk hb; have HX1 := Aside0.mk hbox; obtain ⟨hz0, hzf0, hz1, hzf1, hz2, hzf2, hz3, hzf3, hz4, hzf4⟩ := cells5 hbox; clear hbox hb hg))
 have hi1 : IntsAt (w1.alloc (.cells #[.int .i64 9, .int .i64 10, .int .i64 5, .int .i64 6, .int .i64 7, .int .i64 12, .int .i64 13, .int .i64 11, .int .i64 4] 3)) w1.heap.size [9, 10, 5, 6, 7, 12, 13, 11, 4] := ints_new w1 [9, 10, 5, 6, 7, 12, 13, 11, 4] 3
 refine (show Calls Tryz.prog 37 #[.slice (some ⟨w1.heap.size, 0, none⟩) 9 9] _ (AnyPost _ [9, 10, 5, 6, 7, 12, 13, 11, 4] _) from anyOf_calls w1.heap.size [9, 10, 5, 6, 7, 12, 13, 11, 4] _ (by decide) hi1).mono ?_
 rintro e w2 ⟨b1, rfl, hat, hb2⟩
 have HA := Aside0.mk hat
 have hbb : Below w1.heap.size w1 w2 := below_step (below_alloc (Below.refl _ w1) (.cells #[.int .i64 9, .int .i64 10, .int .i64 5, .int .i64 6, .int .i64 7, .int .i64 12, .int .i64 13, .int .i64 11, .int .i64 4] 3)) hb2
 have HI2 := Aside0.mk (blk_below (blk_new w1 (.cells #[.int .i64 9, .int .i64 10, .int .i64 5, .int .i64 6, .int .i64 7, .int .i64 12, .int .i64 13, .int .i64 11, .int .i64 4] 3)) hb2)
 clear hat hb2 hi1
 have HB2 := Aside0.mk (below_step HB1.out hbb)
 have HX2 := Aside0.mk (blk_below HX1.out hbb)
 clear hbb
 clear hz0 hzf0 hz1 hzf1 hz2 hzf2 hz3 hzf3 hz4 hzf4
 obtain ⟨hz0, hzf0, hz1, hzf1, hz2, hzf2, hz3, hzf3, hz4, hzf4⟩ := cells5 HX2.out
 have HS0 := (⟨fn_42.to (fun k x => by simp [textB]), fn_31.to (fun k x => by simp [numsB]), ((fn_any w2 b1 _ [9, 10, 5, 6, 7, 12, 13, 11, 4] _ HA.out HI2.out)).to (fun k l => by simp [kidsB])⟩ : Shp w2 5 _ _ _)
 go_wp2
 obtain ⟨wf, hwf, hF, HBf, HSf⟩ := putS (.func (.func 42) #[] #[]) (.func (.func 31) #[] #[]) (.func (.func 70) #[] #[.pointer (some ⟨b1, 0, none⟩)]) (.int .i64 0) (.bool true) HX2.out HB2.out HG.out HS0
 rw [hwf]
 obtain ⟨hcf0, _, hcf1, _, hcf2, _, hcf3, _, hcf4, _⟩ := cells5 hF
 refine bodyPost_ret (v := .agg #[.func (.func 42) #[] #[], .func (.func 31) #[] #[], .func (.func 70) #[] #[.pointer (some ⟨b1, 0, none⟩)], .int .i64 0, .bool true]) ?_ rfl ⟨_, _, _, rfl, HSf, HBf⟩
 simp [results, Tryz.results23, go_sem, hcf0, hcf1, hcf2, hcf3, hcf4]
set_option maxHeartbeats 8000000 in
set_option maxRecDepth 100000 in
theorem of_6 (w : World) : Calls Tryz.prog 23 #[.int .i64 6] w (OfPostS 6 w) := by
 go_enter Tryz.func23, Tryz.ntmps23
 go_wp2_with (first | ((with_reducible refine gate_dst (N := 2) rfl ?_); refine box_event ?hg (N := 2) ?hd (cs := #[.nilFunc, .nilFunc, .nilFunc, .int .i64 0, .bool false]) (t := 33) ?hr ?_; (case hd => rfl); (case hg => rfl); (case hr => first | (go_simp; done) | (go_simp; rfl)); intro g hg w1 hbox hb; have HG := Aside0.mk (show w.heap.size ≤ g by rw [hg]; exact Nat.le_refl _); have HB1 := Aside0.mk hb; have HX1 := Aside0.mk hbox; obtain ⟨hz0, hzf0, hz1, hzf1, hz2, hzf2, hz3, hzf3, hz4, hzf4⟩ := cells5 hbox; clear hbox hb hg))
 have hi1 : IntsAt (w1.alloc (.cells #[.int .i64 16, .int .i64 4] 3)) w1.heap.size [16, 4] := ints_new w1 [16, 4] 3
 refine (show Calls Tryz.prog 37 #[.slice (some ⟨w1.heap.size, 0, none⟩) 2 2] _ (AnyPost _ [16, 4] _) from anyOf_calls w1.heap.size [16, 4] _ (by decide) hi1).mono ?_
 rintro e w2 ⟨b1, rfl, hat, hb2⟩
 have HA := Aside0.mk hat
 have hbb : Below w1.heap.size w1 w2 := below_step (below_alloc (Below.refl _ w1) (.cells #[.int .i64 16, .int .i64 4] 3)) hb2
 have HI2 := Aside0.mk (blk_below (blk_new w1 (.cells #[.int .i64 16, .int .i64 4] 3)) hb2)
 clear hat hb2 hi1
 have HB2 := Aside0.mk (below_step HB1.out hbb)
 have HX2 := Aside0.mk (blk_below HX1.out hbb)
 clear hbb
 clear hz0 hzf0 hz1 hzf1 hz2 hzf2 hz3 hzf3 hz4 hzf4
 obtain ⟨hz0, hzf0, hz1, hzf1, hz2, hzf2, hz3, hzf3, hz4, hzf4⟩ := cells5 HX2.out
 have HS0 := (⟨fn_42.to (fun k x => by simp [textB]), fn_31.to (fun k x => by simp [numsB]), ((fn_any w2 b1 _ [16, 4] _ HA.out HI2.out)).to (fun k l => by simp [kidsB])⟩ : Shp w2 6 _ _ _)
 go_wp2
 obtain ⟨wf, hwf, hF, HBf, HSf⟩ := putS (.func (.func 42) #[] #[]) (.func (.func 31) #[] #[]) (.func (.func 70) #[] #[.pointer (some ⟨b1, 0, none⟩)]) (.int .i64 0) (.bool true) HX2.out HB2.out HG.out HS0
 rw [hwf]
 obtain ⟨hcf0, _, hcf1, _, hcf2, _, hcf3, _, hcf4, _⟩ := cells5 hF
 refine bodyPost_ret (v := .agg #[.func (.func 42) #[] #[], .func (.func 31) #[] #[], .func (.func 70) #[] #[.pointer (some ⟨b1, 0, none⟩)], .int .i64 0, .bool true]) ?_ rfl ⟨_, _, _, rfl, HSf, HBf⟩
 simp [results, Tryz.results23, go_sem, hcf0, hcf1, hcf2, hcf3, hcf4]
set_option maxHeartbeats 8000000 in
set_option maxRecDepth 100000 in
theorem of_7 (w : World) : Calls Tryz.prog 23 #[.int .i64 7] w (OfPostS 7 w) := by
 go_enter Tryz.func23, Tryz.ntmps23
 go_wp2_with (first | ((with_reducible refine gate_dst (N := 2) rfl ?_); refine box_event ?hg (N := 2) ?hd (cs := #[.nilFunc, .nilFunc, .nilFunc, .int .i64 0, .bool false]) (t := 33) ?hr ?_; (case hd => rfl); (case hg => rfl); (case hr => first | (go_simp; done) | (go_simp; rfl)); intro g hg w1 hbox hb; have HG := Aside0.mk (show w.heap.size ≤ g by rw [hg]; exact Nat.le_refl _); have HB1 := Aside0.mk hb; have HX1 := Aside0.mk hbox; obtain ⟨hz0, hzf0, hz1, hzf1, hz2, hzf2, hz3, hzf3, hz4, hzf4⟩ := cells5 hbox; clear hbox hb hg))
 have hi1 : IntsAt (w1.alloc (.cells #[.int .i64 9] 3)) w1.heap.size [9] := ints_new w1 [9] 3
 refine (show Calls Tryz.prog 37 #[.slice (some ⟨w1.heap.size, 0, none⟩) 1 1] _ (AnyPost _ [9] _) from anyOf_calls w1.heap.size [9] _ (by decide) hi1).mono ?_
 rintro e w2 ⟨b1, rfl, hat, hb2⟩
 have HA := Aside0.mk hat
 have hbb : Below w1.heap.size w1 w2 := below_step (below_alloc (Below.refl _ w1) (.cells #[.int .i64 9] 3)) hb2
 have HI2 := Aside0.mk (blk_below (blk_new w1 (.cells #[.int .i64 9] 3)) hb2)
 clear hat hb2 hi1
 have HB2 := Aside0.mk (below_step HB1.out hbb)
 have HX2 := Aside0.mk (blk_below HX1.out hbb)
 clear hbb
 clear hz0 hzf0 hz1 hzf1 hz2 hzf2 hz3 hzf3 hz4 hzf4
 obtain ⟨hz0, hzf0, hz1, hzf1, hz2, hzf2, hz3, hzf3, hz4, hzf4⟩ := cells5 HX2.out
 have HS0 := (⟨fn_43.to (fun k x => by simp [textB]), fn_31.to (fun k x => by simp [numsB]), ((fn_any w2 b1 _ [9] _ HA.out HI2.out)).to (fun k l => by simp [kidsB])⟩ : Shp w2 7 _ _ _)
 go_wp2
 obtain ⟨wf, hwf, hF, HBf, HSf⟩ := putS (.func (.func 43) #[] #[]) (.func (.func 31) #[] #[]) (.func (.func 70) #[] #[.pointer (some ⟨b1, 0, none⟩)]) (.int .i64 0) (.bool false) HX2.out HB2.out HG.out HS0
 rw [hwf]
 obtain ⟨hcf0, _, hcf1, _, hcf2, _, hcf3, _, hcf4, _⟩ := cells5 hF
 refine bodyPost_ret (v := .agg #[.func (.func 43) #[] #[], .func (.func 31) #[] #[], .func (.func 70) #[] #[.pointer (some ⟨b1, 0, none⟩)], .int .i64 0, .bool false]) ?_ rfl ⟨_, _, _, rfl, HSf, HBf⟩
 simp [results, Tryz.results23, go_sem, hcf0, hcf1, hcf2, hcf3, hcf4]
set_option maxHeartbeats 8000000 in
set_option maxRecDepth 100000 in
theorem of_8 (w : World) : Calls Tryz.prog 23 #[.int .i64 8] w (OfPostS 8 w) := by
 go_enter Tryz.func23, Tryz.ntmps23
 go_wp2_with (first | ((with_reducible refine gate_dst (N := 2) rfl ?_); refine box_event ?hg (N := 2) ?hd (cs := #[.nilFunc, .nilFunc, .nilFunc, .int .i64 0, .bool false]) (t := 33) ?hr ?_; (case hd => rfl); (case hg => rfl); (case hr => first | (go_simp; done) | (go_simp; rfl)); intro g hg w1 hbox hb; have HG := Aside0.mk (show w.heap.size ≤ g by rw [hg]; exact Nat.le_refl _); have HB1 := Aside0.mk hb; have HX1 := Aside0.mk hbox; obtain ⟨hz0, hzf0, hz1, hzf1, hz2, hzf2, hz3, hzf3, hz4, hzf4⟩ := cells5 hbox; clear hbox hb hg))
 have hi1 : IntsAt (w1.alloc (.cells #[.int .i64 17, .int .i64 4] 3)) w1.heap.size [17, 4] := ints_new w1 [17, 4] 3
 refine (show Calls Tryz.prog 37 #[.slice (some ⟨w1.heap.size, 0, none⟩) 2 2] _ (AnyPost _ [17, 4] _) from anyOf_calls w1.heap.size [17, 4] _ (by decide) hi1).mono ?_
 rintro e w2 ⟨b1, rfl, hat, hb2⟩
 have HA := Aside0.mk hat
 have hbb : Below w1.heap.size w1 w2 := below_step (below_alloc (Below.refl _ w1) (.cells #[.int .i64 17, .int .i64 4] 3)) hb2
 have HI2 := Aside0.mk (blk_below (blk_new w1 (.cells #[.int .i64 17, .int .i64 4] 3)) hb2)
 clear hat hb2 hi1
 have HB2 := Aside0.mk (below_step HB1.out hbb)
 have HX2 := Aside0.mk (blk_below HX1.out hbb)
 clear hbb
 clear hz0 hzf0 hz1 hzf1 hz2 hzf2 hz3 hzf3 hz4 hzf4
 obtain ⟨hz0, hzf0, hz1, hzf1, hz2, hzf2, hz3, hzf3, hz4, hzf4⟩ := cells5 HX2.out
 have HS0 := (⟨fn_42.to (fun k x => by simp [textB]), fn_31.to (fun k x => by simp [numsB]), ((fn_any w2 b1 _ [17, 4] _ HA.out HI2.out)).to (fun k l => by simp [kidsB])⟩ : Shp w2 8 _ _ _)
 go_wp2
 obtain ⟨wf, hwf, hF, HBf, HSf⟩ := putS (.func (.func 42) #[] #[]) (.func (.func 31) #[] #[]) (.func (.func 70) #[] #[.pointer (some ⟨b1, 0, none⟩)]) (.int .i64 0) (.bool true) HX2.out HB2.out HG.out HS0
 rw [hwf]
 obtain ⟨hcf0, _, hcf1, _, hcf2, _, hcf3, _, hcf4, _⟩ := cells5 hF
 refine bodyPost_ret (v := .agg #[.func (.func 42) #[] #[], .func (.func 31) #[] #[], .func (.func 70) #[] #[.pointer (some ⟨b1, 0, none⟩)], .int .i64 0, .bool true]) ?_ rfl ⟨_, _, _, rfl, HSf, HBf⟩
 simp [results, Tryz.results23, go_sem, hcf0, hcf1, hcf2, hcf3, hcf4]
set_option maxHeartbeats 8000000 in
set_option maxRecDepth 100000 in
theorem of_9 (w : World) : Calls Tryz.prog 24 #[.int .i64 9] w (OfPostS 9 w) := by
 go_enter Tryz.func24, Tryz.ntmps24
 go_wp2_with (first | ((with_reducible refine gate_dst (N := 2) rfl ?_); refine box_event ?hg (N := 2) ?hd (cs := #[.nilFunc, .nilFunc, .nilFunc, .int .i64 0, .bool false]) (t := 33) ?hr ?_; (case hd => rfl); (case hg => rfl); (case hr => first | (go_simp; done) | (go_simp; rfl)); intro g hg w1 hbox hb; have HG := Aside0.mk (show w.heap.size ≤ g by rw [hg]; exact Nat.le_refl _); have HB1 := Aside0.mk hb; have HX1 := Aside0.mk hbox; obtain ⟨hz0, hzf0, hz1, hzf1, hz2, hzf2, hz3, hzf3, hz4, hzf4⟩ := cells5 hbox; clear hbox hb hg))
 refine (typed_calls 1 _).mono ?_
 rintro e w2 ⟨rfl, e1⟩
 have hbb : Below w1.heap.size w1 w2 := by rw [e1]; exact below_alloc (Below.refl _ _) _
 have HA : Aside0 (w2.heap[w1.heap.size]? = some (.cells #[.int .i64 1] 3 (0, 0))) := ⟨by rw [e1]; exact blk_new w1 _⟩
 clear e1
 have HB2 := Aside0.mk (below_step HB1.out hbb)
 have HX2 := Aside0.mk (blk_below HX1.out hbb)
 clear hbb
 clear hz0 hzf0 hz1 hzf1 hz2 hzf2 hz3 hzf3 hz4 hzf4
 obtain ⟨hz0, hzf0, hz1, hzf1, hz2, hzf2, hz3, hzf3, hz4, hzf4⟩ := cells5 HX2.out
 have HS0 := (⟨fn_42.to (fun k x => by simp [textB]), fn_47.to (fun k x => by simp [numsB]), ((fn_typed w2 w1.heap.size 1 (Or.inl rfl) HA.out)).to (fun k l => by simp [kidsB])⟩ : Shp w2 9 _ _ _)
 go_wp2
 obtain ⟨wf, hwf, hF, HBf, HSf⟩ := putS (.func (.func 42) #[] #[]) (.func (.func 47) #[] #[]) (.func (.func 80) #[] #[.pointer (some ⟨w1.heap.size, 0, none⟩)]) (.int .i64 3) (.bool true) HX2.out HB2.out HG.out HS0
 rw [hwf]
 obtain ⟨hcf0, _, hcf1, _, hcf2, _, hcf3, _, hcf4, _⟩ := cells5 hF
 refine bodyPost_ret (v := .agg #[.func (.func 42) #[] #[], .func (.func 47) #[] #[], .func (.func 80) #[] #[.pointer (some ⟨w1.heap.size, 0, none⟩)], .int .i64 3, .bool true]) ?_ rfl ⟨_, _, _, rfl, HSf, HBf⟩
 simp [results, Tryz.results24, go_sem, hcf0, hcf1, hcf2, hcf3, hcf4]
set_option maxHeartbeats 8000000 in
set_option maxRecDepth 100000 in
theorem of_10 (w : World) : Calls Tryz.prog 24 #[.int .i64 10] w (OfPostS 10 w) := by
 go_enter Tryz.func24, Tryz.ntmps24
 go_wp2_with (first | ((with_reducible refine gate_dst (N := 2) rfl ?_); refine box_event ?hg (N := 2) ?hd (cs := #[.nilFunc, .nilFunc, .nilFunc, .int .i64 0, .bool false]) (t := 33) ?hr ?_; (case hd => rfl); (case hg => rfl); (case hr => first | (go_simp; done) | (go_simp; rfl)); intro g hg w1 hbox hb; have HG := Aside0.mk (show w.heap.size ≤ g by rw [hg]; exact Nat.le_refl _); have HB1 := Aside0.mk hb; have HX1 := Aside0.mk hbox; obtain ⟨hz0, hzf0, hz1, hzf1, hz2, hzf2, hz3, hzf3, hz4, hzf4⟩ := cells5 hbox; clear hbox hb hg))
 have HS0 := (⟨fn_42.to (fun k x => by simp [textB]), fn_47.to (fun k x => by simp [numsB]), ((fn_48 w1)).to (fun k l => by simp [kidsB])⟩ : Shp w1 10 _ _ _)
 go_wp2
 obtain ⟨wf, hwf, hF, HBf, HSf⟩ := putS (.func (.func 42) #[] #[]) (.func (.func 47) #[] #[]) (.func (.func 48) #[] #[]) (.int .i64 0) (.bool true) HX1.out HB1.out HG.out HS0
 rw [hwf]
 obtain ⟨hcf0, _, hcf1, _, hcf2, _, hcf3, _, hcf4, _⟩ := cells5 hF
 refine bodyPost_ret (v := .agg #[.func (.func 42) #[] #[], .func (.func 47) #[] #[], .func (.func 48) #[] #[], .int .i64 0, .bool true]) ?_ rfl ⟨_, _, _, rfl, HSf, HBf⟩
 simp [results, Tryz.results24, go_sem, hcf0, hcf1, hcf2, hcf3, hcf4]
set_option maxHeartbeats 8000000 in
set_option maxRecDepth 100000 in
theorem of_11 (w : World) : Calls Tryz.prog 23 #[.int .i64 11] w (OfPostS 11 w) := by
 go_enter Tryz.func23, Tryz.ntmps23
 go_wp2_with (first | ((with_reducible refine gate_dst (N := 2) rfl ?_); refine box_event ?hg (N := 2) ?hd (cs := #[.nilFunc, .nilFunc, .nilFunc, .int .i64 0, .bool false]) (t := 33) ?hr ?_; (case hd => rfl); (case hg => rfl); (case hr => first | (go_simp; done) | (go_simp; rfl)); intro g hg w1 hbox hb; have HG := Aside0.mk (show w.heap.size ≤ g by rw [hg]; exact Nat.le_refl _); have HB1 := Aside0.mk hb; have HX1 := Aside0.mk hbox; obtain ⟨hz0, hzf0, hz1, hzf1, hz2, hzf2, hz3, hzf3, hz4, hzf4⟩ := cells5 hbox; clear hbox hb hg))
 have HS0 := (⟨fn_42.to (fun k x => by simp [textB]), fn_31.to (fun k x => by simp [numsB]), ((fn_45 w1)).to (fun k l => by simp [kidsB])⟩ : Shp w1 11 _ _ _)
 go_wp2
 obtain ⟨wf, hwf, hF, HBf, HSf⟩ := putS (.func (.func 42) #[] #[]) (.func (.func 31) #[] #[]) (.func (.func 45) #[] #[]) (.int .i64 0) (.bool true) HX1.out HB1.out HG.out HS0
 rw [hwf]
 obtain ⟨hcf0, _, hcf1, _, hcf2, _, hcf3, _, hcf4, _⟩ := cells5 hF
 refine bodyPost_ret (v := .agg #[.func (.func 42) #[] #[], .func (.func 31) #[] #[], .func (.func 45) #[] #[], .int .i64 0, .bool true]) ?_ rfl ⟨_, _, _, rfl, HSf, HBf⟩
 simp [results, Tryz.results23, go_sem, hcf0, hcf1, hcf2, hcf3, hcf4]
set_option maxHeartbeats 8000000 in
set_option maxRecDepth 100000 in
theorem of_12 (w : World) : Calls Tryz.prog 23 #[.int .i64 12] w (OfPostS 12 w) := by
 go_enter Tryz.func23, Tryz.ntmps23
 go_wp2_with (first | ((with_reducible refine gate_dst (N := 2) rfl ?_); refine box_event ?hg (N := 2) ?hd (cs := #[.nilFunc, .nilFunc, .nilFunc, .int .i64 0, .bool false]) (t := 33) ?hr ?_; (case hd => rfl); (case hg => rfl); (case hr => first | (go_simp; done) | (go_simp; rfl)); intro g hg w1 hbox hb; have HG := Aside0.mk (show w.heap.size ≤ g by rw [hg]; exact Nat.le_refl _); have HB1 := Aside0.mk hb; have HX1 := Aside0.mk hbox; obtain ⟨hz0, hzf0, hz1, hzf1, hz2, hzf2, hz3, hzf3, hz4, hzf4⟩ := cells5 hbox; clear hbox hb hg))
 have hi1 : IntsAt (w1.alloc (.cells #[.int .i64 14] 3)) w1.heap.size [14] := ints_new w1 [14] 3
 refine (show Calls Tryz.prog 46 #[.slice (some ⟨w1.heap.size, 0, none⟩) 1 1] _ (OnePost _ [14] _) from one_calls w1.heap.size [14] _ (by decide) hi1).mono ?_
 rintro e w2 ⟨b1, rfl, hat, hb2⟩
 have HA := Aside0.mk hat
 have hbb : Below w1.heap.size w1 w2 := below_step (below_alloc (Below.refl _ w1) (.cells #[.int .i64 14] 3)) hb2
 have HI2 := Aside0.mk (blk_below (blk_new w1 (.cells #[.int .i64 14] 3)) hb2)
 clear hat hb2 hi1
 have HB2 := Aside0.mk (below_step HB1.out hbb)
 have HX2 := Aside0.mk (blk_below HX1.out hbb)
 clear hbb
 clear hz0 hzf0 hz1 hzf1 hz2 hzf2 hz3 hzf3 hz4 hzf4
 obtain ⟨hz0, hzf0, hz1, hzf1, hz2, hzf2, hz3, hzf3, hz4, hzf4⟩ := cells5 HX2.out
 have HS0 := (⟨fn_35.to (fun k x => by simp [textB]), fn_31.to (fun k x => by simp [numsB]), ((fn_one w2 b1 _ [14] _ HA.out HI2.out)).to (fun k l => by simp [kidsB])⟩ : Shp w2 12 _ _ _)
 go_wp2
 obtain ⟨wf, hwf, hF, HBf, HSf⟩ := putS (.func (.func 35) #[] #[]) (.func (.func 31) #[] #[]) (.func (.func 79) #[] #[.pointer (some ⟨b1, 0, none⟩)]) (.int .i64 0) (.bool false) HX2.out HB2.out HG.out HS0
 rw [hwf]
 obtain ⟨hcf0, _, hcf1, _, hcf2, _, hcf3, _, hcf4, _⟩ := cells5 hF
 refine bodyPost_ret (v := .agg #[.func (.func 35) #[] #[], .func (.func 31) #[] #[], .func (.func 79) #[] #[.pointer (some ⟨b1, 0, none⟩)], .int .i64 0, .bool false]) ?_ rfl ⟨_, _, _, rfl, HSf, HBf⟩
 simp [results, Tryz.results23, go_sem, hcf0, hcf1, hcf2, hcf3, hcf4]
set_option maxHeartbeats 8000000 in
set_option maxRecDepth 100000 in
theorem of_13 (w : World) : Calls Tryz.prog 23 #[.int .i64 13] w (OfPostS 13 w) := by
 go_enter Tryz.func23, Tryz.ntmps23
 go_wp2_with (first | ((with_reducible refine gate_dst (N := 2) rfl ?_); refine box_event ?hg (N := 2) ?hd (cs := #[.nilFunc, .nilFunc, .nilFunc, .int .i64 0, .bool false]) (t := 33) ?hr ?_; (case hd => rfl); (case hg => rfl); (case hr => first | (go_simp; done) | (go_simp; rfl)); intro g hg w1 hbox hb; have HG := Aside0.mk (show w.heap.size ≤ g by rw [hg]; exact Nat.le_refl _); have HB1 := Aside0.mk hb; have HX1 := Aside0.mk hbox; obtain ⟨hz0, hzf0, hz1, hzf1, hz2, hzf2, hz3, hzf3, hz4, hzf4⟩ := cells5 hbox; clear hbox hb hg))
 have hi1 : IntsAt (w1.alloc (.cells #[.int .i64 14, .int .i64 15] 3)) w1.heap.size [14, 15] := ints_new w1 [14, 15] 3
 refine (show Calls Tryz.prog 46 #[.slice (some ⟨w1.heap.size, 0, none⟩) 2 2] _ (OnePost _ [14, 15] _) from one_calls w1.heap.size [14, 15] _ (by decide) hi1).mono ?_
 rintro e w2 ⟨b1, rfl, hat, hb2⟩
 have HA := Aside0.mk hat
 have hbb : Below w1.heap.size w1 w2 := below_step (below_alloc (Below.refl _ w1) (.cells #[.int .i64 14, .int .i64 15] 3)) hb2
 have HI2 := Aside0.mk (blk_below (blk_new w1 (.cells #[.int .i64 14, .int .i64 15] 3)) hb2)
 clear hat hb2 hi1
 have HB2 := Aside0.mk (below_step HB1.out hbb)
 have HX2 := Aside0.mk (blk_below HX1.out hbb)
 clear hbb
 clear hz0 hzf0 hz1 hzf1 hz2 hzf2 hz3 hzf3 hz4 hzf4
 obtain ⟨hz0, hzf0, hz1, hzf1, hz2, hzf2, hz3, hzf3, hz4, hzf4⟩ := cells5 HX2.out
 have HS0 := (⟨fn_35.to (fun k x => by simp [textB]), fn_31.to (fun k x => by simp [numsB]), ((fn_one w2 b1 _ [14, 15] _ HA.out HI2.out)).to (fun k l => by simp [kidsB])⟩ : Shp w2 13 _ _ _)
 go_wp2
 obtain ⟨wf, hwf, hF, HBf, HSf⟩ := putS (.func (.func 35) #[] #[]) (.func (.func 31) #[] #[]) (.func (.func 79) #[] #[.pointer (some ⟨b1, 0, none⟩)]) (.int .i64 0) (.bool false) HX2.out HB2.out HG.out HS0
 rw [hwf]
 obtain ⟨hcf0, _, hcf1, _, hcf2, _, hcf3, _, hcf4, _⟩ := cells5 hF
 refine bodyPost_ret (v := .agg #[.func (.func 35) #[] #[], .func (.func 31) #[] #[], .func (.func 79) #[] #[.pointer (some ⟨b1, 0, none⟩)], .int .i64 0, .bool false]) ?_ rfl ⟨_, _, _, rfl, HSf, HBf⟩
 simp [results, Tryz.results23, go_sem, hcf0, hcf1, hcf2, hcf3, hcf4]
set_option maxHeartbeats 8000000 in
set_option maxRecDepth 100000 in
theorem of_14 (w : World) : Calls Tryz.prog 24 #[.int .i64 14] w (OfPostS 14 w) := by
 go_enter Tryz.func24, Tryz.ntmps24
 go_wp2_with (first | ((with_reducible refine gate_dst (N := 2) rfl ?_); refine box_event ?hg (N := 2) ?hd (cs := #[.nilFunc, .nilFunc, .nilFunc, .int .i64 0, .bool false]) (t := 33) ?hr ?_; (case hd => rfl); (case hg => rfl); (case hr => first | (go_simp; done) | (go_simp; rfl)); intro g hg w1 hbox hb; have HG := Aside0.mk (show w.heap.size ≤ g by rw [hg]; exact Nat.le_refl _); have HB1 := Aside0.mk hb; have HX1 := Aside0.mk hbox; obtain ⟨hz0, hzf0, hz1, hzf1, hz2, hzf2, hz3, hzf3, hz4, hzf4⟩ := cells5 hbox; clear hbox hb hg))
 have HS0 := (⟨fn_35.to (fun k x => by simp [textB]), fn_51.to (fun k x => by simp [numsB]), ((fn_32 w1)).to (fun k l => by simp [kidsB])⟩ : Shp w1 14 _ _ _)
 go_wp2
 obtain ⟨wf, hwf, hF, HBf, HSf⟩ := putS (.func (.func 35) #[] #[]) (.func (.func 51) #[] #[]) (.func (.func 32) #[] #[]) (.int .i64 0) (.bool false) HX1.out HB1.out HG.out HS0
 rw [hwf]
 obtain ⟨hcf0, _, hcf1, _, hcf2, _, hcf3, _, hcf4, _⟩ := cells5 hF
 refine bodyPost_ret (v := .agg #[.func (.func 35) #[] #[], .func (.func 51) #[] #[], .func (.func 32) #[] #[], .int .i64 0, .bool false]) ?_ rfl ⟨_, _, _, rfl, HSf, HBf⟩
 simp [results, Tryz.results24, go_sem, hcf0, hcf1, hcf2, hcf3, hcf4]
set_option maxHeartbeats 8000000 in
set_option maxRecDepth 100000 in
theorem of_15 (w : World) : Calls Tryz.prog 24 #[.int .i64 15] w (OfPostS 15 w) := by
 go_enter Tryz.func24, Tryz.ntmps24
 go_wp2_with (first | ((with_reducible refine gate_dst (N := 2) rfl ?_); refine box_event ?hg (N := 2) ?hd (cs := #[.nilFunc, .nilFunc, .nilFunc, .int .i64 0, .bool false]) (t := 33) ?hr ?_; (case hd => rfl); (case hg => rfl); (case hr => first | (go_simp; done) | (go_simp; rfl)); intro g hg w1 hbox hb; have HG := Aside0.mk (show w.heap.size ≤ g by rw [hg]; exact Nat.le_refl _); have HB1 := Aside0.mk hb; have HX1 := Aside0.mk hbox; obtain ⟨hz0, hzf0, hz1, hzf1, hz2, hzf2, hz3, hzf3, hz4, hzf4⟩ := cells5 hbox; clear hbox hb hg))
 have HS0 := (⟨fn_42.to (fun k x => by simp [textB]), fn_31.to (fun k x => by simp [numsB]), ((fn_32 w1)).to (fun k l => by simp [kidsB])⟩ : Shp w1 15 _ _ _)
 go_wp2
 obtain ⟨wf, hwf, hF, HBf, HSf⟩ := putS (.func (.func 42) #[] #[]) (.func (.func 31) #[] #[]) (.func (.func 32) #[] #[]) (.int .i64 0) (.bool false) HX1.out HB1.out HG.out HS0
 rw [hwf]
 obtain ⟨hcf0, _, hcf1, _, hcf2, _, hcf3, _, hcf4, _⟩ := cells5 hF
 refine bodyPost_ret (v := .agg #[.func (.func 42) #[] #[], .func (.func 31) #[] #[], .func (.func 32) #[] #[], .int .i64 0, .bool false]) ?_ rfl ⟨_, _, _, rfl, HSf, HBf⟩
 simp [results, Tryz.results24, go_sem, hcf0, hcf1, hcf2, hcf3, hcf4]
set_option maxHeartbeats 8000000 in
set_option maxRecDepth 100000 in
theorem of_16 (w : World) : Calls Tryz.prog 24 #[.int .i64 16] w (OfPostS 16 w) := by
 go_enter Tryz.func24, Tryz.ntmps24
 go_wp2_with (first | ((with_reducible refine gate_dst (N := 2) rfl ?_); refine box_event ?hg (N := 2) ?hd (cs := #[.nilFunc, .nilFunc, .nilFunc, .int .i64 0, .bool false]) (t := 33) ?hr ?_; (case hd => rfl); (case hg => rfl); (case hr => first | (go_simp; done) | (go_simp; rfl)); intro g hg w1 hbox hb; have HG := Aside0.mk (show w.heap.size ≤ g by rw [hg]; exact Nat.le_refl _); have HB1 := Aside0.mk hb; have HX1 := Aside0.mk hbox; obtain ⟨hz0, hzf0, hz1, hzf1, hz2, hzf2, hz3, hzf3, hz4, hzf4⟩ := cells5 hbox; clear hbox hb hg))
 have hi1 : IntsAt (w1.alloc (.cells #[.int .i64 4] 3)) w1.heap.size [4] := ints_new w1 [4] 3
 refine (show Calls Tryz.prog 37 #[.slice (some ⟨w1.heap.size, 0, none⟩) 1 1] _ (AnyPost _ [4] _) from anyOf_calls w1.heap.size [4] _ (by decide) hi1).mono ?_
 rintro e w2 ⟨b1, rfl, hat, hb2⟩
 have HA := Aside0.mk hat
 have hbb : Below w1.heap.size w1 w2 := below_step (below_alloc (Below.refl _ w1) (.cells #[.int .i64 4] 3)) hb2
 have HI2 := Aside0.mk (blk_below (blk_new w1 (.cells #[.int .i64 4] 3)) hb2)
 clear hat hb2 hi1
 have HB2 := Aside0.mk (below_step HB1.out hbb)
 have HX2 := Aside0.mk (blk_below HX1.out hbb)
 clear hbb
 clear hz0 hzf0 hz1 hzf1 hz2 hzf2 hz3 hzf3 hz4 hzf4
 obtain ⟨hz0, hzf0, hz1, hzf1, hz2, hzf2, hz3, hzf3, hz4, hzf4⟩ := cells5 HX2.out
 have HS0 := (⟨fn_52.to (fun k x => by simp [textB]), fn_53.to (fun k x => by simp [numsB]), ((fn_any w2 b1 _ [4] _ HA.out HI2.out)).to (fun k l => by simp [kidsB])⟩ : Shp w2 16 _ _ _)
 go_wp2
 obtain ⟨wf, hwf, hF, HBf, HSf⟩ := putS (.func (.func 52) #[] #[]) (.func (.func 53) #[] #[]) (.func (.func 70) #[] #[.pointer (some ⟨b1, 0, none⟩)]) (.int .i64 0) (.bool true) HX2.out HB2.out HG.out HS0
 rw [hwf]
 obtain ⟨hcf0, _, hcf1, _, hcf2, _, hcf3, _, hcf4, _⟩ := cells5 hF
 refine bodyPost_ret (v := .agg #[.func (.func 52) #[] #[], .func (.func 53) #[] #[], .func (.func 70) #[] #[.pointer (some ⟨b1, 0, none⟩)], .int .i64 0, .bool true]) ?_ rfl ⟨_, _, _, rfl, HSf, HBf⟩
 simp [results, Tryz.results24, go_sem, hcf0, hcf1, hcf2, hcf3, hcf4]
set_option maxHeartbeats 8000000 in
set_option maxRecDepth 100000 in
theorem of_17 (w : World) : Calls Tryz.prog 24 #[.int .i64 17] w (OfPostS 17 w) := by
 go_enter Tryz.func24, Tryz.ntmps24
 go_wp2_with (first | ((with_reducible refine gate_dst (N := 2) rfl ?_); refine box_event ?hg (N := 2) ?hd (cs := #[.nilFunc, .nilFunc, .nilFunc, .int .i64 0, .bool false]) (t := 33) ?hr ?_; (case hd => rfl); (case hg => rfl); (case hr => first | (go_simp; done) | (go_simp; rfl)); intro g hg w1 hbox hb; have HG := Aside0.mk (show w.heap.size ≤ g by rw [hg]; exact Nat.le_refl _); have HB1 := Aside0.mk hb; have HX1 := Aside0.mk hbox; obtain ⟨hz0, hzf0, hz1, hzf1, hz2, hzf2, hz3, hzf3, hz4, hzf4⟩ := cells5 hbox; clear hbox hb hg))
 refine (typed_calls 2 _).mono ?_
 rintro e w2 ⟨rfl, e1⟩
 have hbb : Below w1.heap.size w1 w2 := by rw [e1]; exact below_alloc (Below.refl _ _) _
 have HA : Aside0 (w2.heap[w1.heap.size]? = some (.cells #[.int .i64 2] 3 (0, 0))) := ⟨by rw [e1]; exact blk_new w1 _⟩
 clear e1
 have HB2 := Aside0.mk (below_step HB1.out hbb)
 have HX2 := Aside0.mk (blk_below HX1.out hbb)
 clear hbb
 clear hz0 hzf0 hz1 hzf1 hz2 hzf2 hz3 hzf3 hz4 hzf4
 obtain ⟨hz0, hzf0, hz1, hzf1, hz2, hzf2, hz3, hzf3, hz4, hzf4⟩ := cells5 HX2.out
 have HS0 := (⟨fn_42.to (fun k x => by simp [textB]), fn_31.to (fun k x => by simp [numsB]), ((fn_typed w2 w1.heap.size 2 (Or.inr rfl) HA.out)).to (fun k l => by simp [kidsB])⟩ : Shp w2 17 _ _ _)
 go_wp2
 obtain ⟨wf, hwf, hF, HBf, HSf⟩ := putS (.func (.func 42) #[] #[]) (.func (.func 31) #[] #[]) (.func (.func 80) #[] #[.pointer (some ⟨w1.heap.size, 0, none⟩)]) (.int .i64 3) (.bool true) HX2.out HB2.out HG.out HS0
 rw [hwf]
 obtain ⟨hcf0, _, hcf1, _, hcf2, _, hcf3, _, hcf4, _⟩ := cells5 hF
 refine bodyPost_ret (v := .agg #[.func (.func 42) #[] #[], .func (.func 31) #[] #[], .func (.func 80) #[] #[.pointer (some ⟨w1.heap.size, 0, none⟩)], .int .i64 3, .bool true]) ?_ rfl ⟨_, _, _, rfl, HSf, HBf⟩
 simp [results, Tryz.results24, go_sem, hcf0, hcf1, hcf2, hcf3, hcf4]
set_option maxHeartbeats 8000000 in
set_option maxRecDepth 100000 in
theorem of_18 (w : World) : Calls Tryz.prog 24 #[.int .i64 18] w (OfPostS 18 w) := by
 go_enter Tryz.func24, Tryz.ntmps24
 go_wp2_with (first | ((with_reducible refine gate_dst (N := 2) rfl ?_); refine box_event ?hg (N := 2) ?hd (cs := #[.nilFunc, .nilFunc, .nilFunc, .int .i64 0, .bool false]) (t := 33) ?hr ?_; (case hd => rfl); (case hg => rfl); (case hr => first | (go_simp; done) | (go_simp; rfl)); intro g hg w1 hbox hb; have HG := Aside0.mk (show w.heap.size ≤ g by rw [hg]; exact Nat.le_refl _); have HB1 := Aside0.mk hb; have HX1 := Aside0.mk hbox; obtain ⟨hz0, hzf0, hz1, hzf1, hz2, hzf2, hz3, hzf3, hz4, hzf4⟩ := cells5 hbox; clear hbox hb hg))
 have HS0 := (⟨fn_54.to (fun k x => by simp [textB]), fn_31.to (fun k x => by simp [numsB]), ((fn_32 w1)).to (fun k l => by simp [kidsB])⟩ : Shp w1 18 _ _ _)
 go_wp2
 obtain ⟨wf, hwf, hF, HBf, HSf⟩ := putS (.func (.func 54) #[] #[]) (.func (.func 31) #[] #[]) (.func (.func 32) #[] #[]) (.int .i64 0) (.bool false) HX1.out HB1.out HG.out HS0
 rw [hwf]
 obtain ⟨hcf0, _, hcf1, _, hcf2, _, hcf3, _, hcf4, _⟩ := cells5 hF
 refine bodyPost_ret (v := .agg #[.func (.func 54) #[] #[], .func (.func 31) #[] #[], .func (.func 32) #[] #[], .int .i64 0, .bool false]) ?_ rfl ⟨_, _, _, rfl, HSf, HBf⟩
 simp [results, Tryz.results24, go_sem, hcf0, hcf1, hcf2, hcf3, hcf4]
set_option maxHeartbeats 8000000 in
set_option maxRecDepth 100000 in
theorem of_19 (w : World) : Calls Tryz.prog 25 #[.int .i64 19] w (OfPostS 19 w) := by
 go_enter Tryz.func25, Tryz.ntmps25
 go_wp2_with (first | ((with_reducible refine gate_dst (N := 2) rfl ?_); refine box_event ?hg (N := 2) ?hd (cs := #[.nilFunc, .nilFunc, .nilFunc, .int .i64 0, .bool false]) (t := 33) ?hr ?_; (case hd => rfl); (case hg => rfl); (case hr => first | (go_simp; done) | (go_simp; rfl)); intro g hg w1 hbox hb; have HG := Aside0.mk (show w.heap.size ≤ g by rw [hg]; exact Nat.le_refl _); have HB1 := Aside0.mk hb; have HX1 := Aside0.mk hbox; obtain ⟨hz0, hzf0, hz1, hzf1, hz2, hzf2, hz3, hzf3, hz4, hzf4⟩ := cells5 hbox; clear hbox hb hg))
 have HS0 := (⟨fn_55.to (fun k x => by simp [textB]), fn_31.to (fun k x => by simp [numsB]), ((fn_32 w1)).to (fun k l => by simp [kidsB])⟩ : Shp w1 19 _ _ _)
 go_wp2
 obtain ⟨wf, hwf, hF, HBf, HSf⟩ := putS (.func (.func 55) #[] #[]) (.func (.func 31) #[] #[]) (.func (.func 32) #[] #[]) (.int .i64 1) (.bool false) HX1.out HB1.out HG.out HS0
 rw [hwf]
 obtain ⟨hcf0, _, hcf1, _, hcf2, _, hcf3, _, hcf4, _⟩ := cells5 hF
 refine bodyPost_ret (v := .agg #[.func (.func 55) #[] #[], .func (.func 31) #[] #[], .func (.func 32) #[] #[], .int .i64 1, .bool false]) ?_ rfl ⟨_, _, _, rfl, HSf, HBf⟩
 simp [results, Tryz.results25, go_sem, hcf0, hcf1, hcf2, hcf3, hcf4]
set_option maxHeartbeats 8000000 in
set_option maxRecDepth 100000 in
theorem of_20 (w : World) : Calls Tryz.prog 25 #[.int .i64 20] w (OfPostS 20 w) := by
 go_enter Tryz.func25, Tryz.ntmps25
 go_wp2_with (first | ((with_reducible refine gate_dst (N := 2) rfl ?_); refine box_event ?hg (N := 2) ?hd (cs := #[.nilFunc, .nilFunc, .nilFunc, .int .i64 0, .bool false]) (t := 33) ?hr ?_; (case hd => rfl); (case hg => rfl); (case hr => first | (go_simp; done) | (go_simp; rfl)); intro g hg w1 hbox hb; have HG := Aside0.mk (show w.heap.size ≤ g by rw [hg]; exact Nat.le_refl _); have HB1 := Aside0.mk hb; have HX1 := Aside0.mk hbox; obtain ⟨hz0, hzf0, hz1, hzf1, hz2, hzf2, hz3, hzf3, hz4, hzf4⟩ := cells5 hbox; clear hbox hb hg))
 have HS0 := (⟨fn_56.to (fun k x => by simp [textB]), fn_31.to (fun k x => by simp [numsB]), ((fn_32 w1)).to (fun k l => by simp [kidsB])⟩ : Shp w1 20 _ _ _)
 go_wp2
 obtain ⟨wf, hwf, hF, HBf, HSf⟩ := putS (.func (.func 56) #[] #[]) (.func (.func 31) #[] #[]) (.func (.func 32) #[] #[]) (.int .i64 0) (.bool false) HX1.out HB1.out HG.out HS0
 rw [hwf]
 obtain ⟨hcf0, _, hcf1, _, hcf2, _, hcf3, _, hcf4, _⟩ := cells5 hF
 refine bodyPost_ret (v := .agg #[.func (.func 56) #[] #[], .func (.func 31) #[] #[], .func (.func 32) #[] #[], .int .i64 0, .bool false]) ?_ rfl ⟨_, _, _, rfl, HSf, HBf⟩
 simp [results, Tryz.results25, go_sem, hcf0, hcf1, hcf2, hcf3, hcf4]
set_option maxHeartbeats 8000000 in
set_option maxRecDepth 100000 in
theorem of_21 (w : World) : Calls Tryz.prog 25 #[.int .i64 21] w (OfPostS 21 w) := by
 go_enter Tryz.func25, Tryz.ntmps25
 go_wp2_with (first | ((with_reducible refine gate_dst (N := 2) rfl ?_); refine box_event ?hg (N := 2) ?hd (cs := #[.nilFunc, .nilFunc, .nilFunc, .int .i64 0, .bool false]) (t := 33) ?hr ?_; (case hd => rfl); (case hg => rfl); (case hr => first | (go_simp; done) | (go_simp; rfl)); intro g hg w1 hbox hb; have HG := Aside0.mk (show w.heap.size ≤ g by rw [hg]; exact Nat.le_refl _); have HB1 := Aside0.mk hb; have HX1 := Aside0.mk hbox; obtain ⟨hz0, hzf0, hz1, hzf1, hz2, hzf2, hz3, hzf3, hz4, hzf4⟩ := cells5 hbox; clear hbox hb hg))
 have HS0 := (⟨fn_42.to (fun k x => by simp [textB]), fn_31.to (fun k x => by simp [numsB]), ((fn_32 w1)).to (fun k l => by simp [kidsB])⟩ : Shp w1 21 _ _ _)
 go_wp2
 obtain ⟨wf, hwf, hF, HBf, HSf⟩ := putS (.func (.func 42) #[] #[]) (.func (.func 31) #[] #[]) (.func (.func 32) #[] #[]) (.int .i64 0) (.bool false) HX1.out HB1.out HG.out HS0
 rw [hwf]
 obtain ⟨hcf0, _, hcf1, _, hcf2, _, hcf3, _, hcf4, _⟩ := cells5 hF
 refine bodyPost_ret (v := .agg #[.func (.func 42) #[] #[], .func (.func 31) #[] #[], .func (.func 32) #[] #[], .int .i64 0, .bool false]) ?_ rfl ⟨_, _, _, rfl, HSf, HBf⟩
 simp [results, Tryz.results25, go_sem, hcf0, hcf1, hcf2, hcf3, hcf4]
set_option maxHeartbeats 8000000 in
set_option maxRecDepth 100000 in
theorem of_22 (w : World) : Calls Tryz.prog 25 #[.int .i64 22] w (OfPostS 22 w) := by
 go_enter Tryz.func25, Tryz.ntmps25
 go_wp2_with (first | ((with_reducible refine gate_dst (N := 2) rfl ?_); refine box_event ?hg (N := 2) ?hd (cs := #[.nilFunc, .nilFunc, .nilFunc, .int .i64 0, .bool false]) (t := 33) ?hr ?_; (case hd => rfl); (case hg => rfl); (case hr => first | (go_simp; done) | (go_simp; rfl)); intro g hg w1 hbox hb; have HG := Aside0.mk (show w.heap.size ≤ g by rw [hg]; exact Nat.le_refl _); have HB1 := Aside0.mk hb; have HX1 := Aside0.mk hbox; obtain ⟨hz0, hzf0, hz1, hzf1, hz2, hzf2, hz3, hzf3, hz4, hzf4⟩ := cells5 hbox; clear hbox hb hg))
 have HS0 := (⟨fn_58.to (fun k x => by simp [textB]), fn_31.to (fun k x => by simp [numsB]), ((fn_32 w1)).to (fun k l => by simp [kidsB])⟩ : Shp w1 22 _ _ _)
 go_wp2
 obtain ⟨wf, hwf, hF, HBf, HSf⟩ := putS (.func (.func 58) #[] #[]) (.func (.func 31) #[] #[]) (.func (.func 32) #[] #[]) (.int .i64 0) (.bool false) HX1.out HB1.out HG.out HS0
 rw [hwf]
 obtain ⟨hcf0, _, hcf1, _, hcf2, _, hcf3, _, hcf4, _⟩ := cells5 hF
 refine bodyPost_ret (v := .agg #[.func (.func 58) #[] #[], .func (.func 31) #[] #[], .func (.func 32) #[] #[], .int .i64 0, .bool false]) ?_ rfl ⟨_, _, _, rfl, HSf, HBf⟩
 simp [results, Tryz.results25, go_sem, hcf0, hcf1, hcf2, hcf3, hcf4]
set_option maxHeartbeats 8000000 in
set_option maxRecDepth 100000 in
theorem of_23 (w : World) : Calls Tryz.prog 25 #[.int .i64 23] w (OfPostS 23 w) := by
 go_enter Tryz.func25, Tryz.ntmps25
 go_wp2_with (first | ((with_reducible refine gate_dst (N := 2) rfl ?_); refine box_event ?hg (N := 2) ?hd (cs := #[.nilFunc, .nilFunc, .nilFunc, .int .i64 0, .bool false]) (t := 33) ?hr ?_; (case hd => rfl); (case hg => rfl); (case hr => first | (go_simp; done) | (go_simp; rfl)); intro g hg w1 hbox hb; have HG := Aside0.mk (show w.heap.size ≤ g by rw [hg]; exact Nat.le_refl _); have HB1 := Aside0.mk hb; have HX1 := Aside0.mk hbox; obtain ⟨hz0, hzf0, hz1, hzf1, hz2, hzf2, hz3, hzf3, hz4, hzf4⟩ := cells5 hbox; clear hbox hb hg))
 have hi1 : IntsAt (w1.alloc (.cells #[.int .i64 24] 3)) w1.heap.size [24] := ints_new w1 [24] 3
 refine (show Calls Tryz.prog 37 #[.slice (some ⟨w1.heap.size, 0, none⟩) 1 1] _ (AnyPost _ [24] _) from anyOf_calls w1.heap.size [24] _ (by decide) hi1).mono ?_
 rintro e w2 ⟨b1, rfl, hat, hb2⟩
 have HA := Aside0.mk hat
 have hbb : Below w1.heap.size w1 w2 := below_step (below_alloc (Below.refl _ w1) (.cells #[.int .i64 24] 3)) hb2
 have HI2 := Aside0.mk (blk_below (blk_new w1 (.cells #[.int .i64 24] 3)) hb2)
 clear hat hb2 hi1
 have HB2 := Aside0.mk (below_step HB1.out hbb)
 have HX2 := Aside0.mk (blk_below HX1.out hbb)
 clear hbb
 clear hz0 hzf0 hz1 hzf1 hz2 hzf2 hz3 hzf3 hz4 hzf4
 obtain ⟨hz0, hzf0, hz1, hzf1, hz2, hzf2, hz3, hzf3, hz4, hzf4⟩ := cells5 HX2.out
 have HS0 := (⟨fn_35.to (fun k x => by simp [textB]), fn_31.to (fun k x => by simp [numsB]), ((fn_any w2 b1 _ [24] _ HA.out HI2.out)).to (fun k l => by simp [kidsB])⟩ : Shp w2 23 _ _ _)
 go_wp2
 obtain ⟨wf, hwf, hF, HBf, HSf⟩ := putS (.func (.func 35) #[] #[]) (.func (.func 31) #[] #[]) (.func (.func 70) #[] #[.pointer (some ⟨b1, 0, none⟩)]) (.int .i64 0) (.bool false) HX2.out HB2.out HG.out HS0
 rw [hwf]
 obtain ⟨hcf0, _, hcf1, _, hcf2, _, hcf3, _, hcf4, _⟩ := cells5 hF
 refine bodyPost_ret (v := .agg #[.func (.func 35) #[] #[], .func (.func 31) #[] #[], .func (.func 70) #[] #[.pointer (some ⟨b1, 0, none⟩)], .int .i64 0, .bool false]) ?_ rfl ⟨_, _, _, rfl, HSf, HBf⟩
 simp [results, Tryz.results25, go_sem, hcf0, hcf1, hcf2, hcf3, hcf4]
set_option maxHeartbeats 8000000 in
set_option maxRecDepth 100000 in
theorem of_24 (w : World) : Calls Tryz.prog 25 #[.int .i64 24] w (OfPostS 24 w) := by
 go_enter Tryz.func25, Tryz.ntmps25
 go_wp2_with (first | ((with_reducible refine gate_dst (N := 2) rfl ?_); refine box_event ?hg (N := 2) ?hd (cs := #[.nilFunc, .nilFunc, .nilFunc, .int .i64 0, .bool false]) (t := 33) ?hr ?_; (case hd => rfl); (case hg => rfl); (case hr => first | (go_simp; done) | (go_simp; rfl)); intro g hg w1 hbox hb; have HG := Aside0.mk (show w.heap.size ≤ g by rw [hg]; exact Nat.le_refl _); have HB1 := Aside0.mk hb; have HX1 := Aside0.mk hbox; obtain ⟨hz0, hzf0, hz1, hzf1, hz2, hzf2, hz3, hzf3, hz4, hzf4⟩ := cells5 hbox; clear hbox hb hg))
 have HS0 := (⟨fn_55.to (fun k x => by simp [textB]), fn_31.to (fun k x => by simp [numsB]), ((fn_59 w1)).to (fun k l => by simp [kidsB])⟩ : Shp w1 24 _ _ _)
 go_wp2
 obtain ⟨wf, hwf, hF, HBf, HSf⟩ := putS (.func (.func 55) #[] #[]) (.func (.func 31) #[] #[]) (.func (.func 59) #[] #[]) (.int .i64 1) (.bool false) HX1.out HB1.out HG.out HS0
 rw [hwf]
 obtain ⟨hcf0, _, hcf1, _, hcf2, _, hcf3, _, hcf4, _⟩ := cells5 hF
 refine bodyPost_ret (v := .agg #[.func (.func 55) #[] #[], .func (.func 31) #[] #[], .func (.func 59) #[] #[], .int .i64 1, .bool false]) ?_ rfl ⟨_, _, _, rfl, HSf, HBf⟩
 simp [results, Tryz.results25, go_sem, hcf0, hcf1, hcf2, hcf3, hcf4]
end Go.Proofs.YtdkepckkihclgaaGreatDoor.PNodeChecks

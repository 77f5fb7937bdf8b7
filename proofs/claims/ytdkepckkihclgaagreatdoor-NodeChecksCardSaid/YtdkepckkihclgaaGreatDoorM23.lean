import Derived.Test.YtdkepckkihclgaaGreatDoorM22
import Derived.Laws.EntriesVeiled
namespace Go.Proofs.YtdkepckkihclgaaGreatDoor.PNodeChecks
open Go.RowKit Go.Proofs.YtdkepckkihclgaaGreatDoorW.PrintWords Go.Proofs.YtdkepckkihclgaaGreatDoorW.PrintLast Go.Proofs.YtdkepckkihclgaaGreatDoorW.PrintMore
set_option linter.unusedVariables false
set_option linter.unusedSimpArgs false
set_option maxHeartbeats 8000000 in
set_option maxRecDepth 100000 in
theorem sh_1 (w : World) : Calls Tryz.prog 17 #[.int .i64 1] w (ShPost 1 w) := by
 go_enter Tryz.func17, Tryz.ntmps17
 go_wp2_with (first | ((with_reducible refine gate_dst (N := 2) rfl ?_); refine box_event ?hg (N := 2) ?hd (cs := #[.nilFunc, .nilFunc, .nilFunc, .int .i64 0, .bool false]) (t := 33) ?hr ?_; (case hd => rfl); (case hg => rfl); (case hr => first | (go_simp; done) | (go_simp; rfl)); intro g hg w1 hbox hb; have HG := Aside0.mk (show w.heap.size ≤ g by rw [hg]; exact Nat.le_refl _); have HB1 := Aside0.mk hb; have HX1 := Aside0.mk hbox; obtain ⟨hz0, hzf0, hz1, hzf1, hz2, hzf2, hz3, hzf3, hz4, hzf4⟩ := cells5 hbox; clear hbox hb hg))
 refine (of_1 _).mono ?_
 rintro e w2 ⟨T, Nf, K, rfl, hs, hb2⟩
 have hmk : mkB 1 = 0 := by simp [mkB]
 have hdc : dcB 1 = false := by simp [dcB]
 rw [hmk, hdc]
 obtain ⟨ft, fnt, hT, ht2⟩ := hs.t
 obtain ⟨fn, fnn, hN, hn2⟩ := hs.n
 obtain ⟨fk, fnk, ck, Sk, hK, hk2⟩ := hs.k
 have HSH := Aside0.mk hs
 clear hs ht2 hn2 hk2
 subst hT hN hK
 have HB2 := Aside0.mk (below_step HB1.out hb2)
 have HX2 := Aside0.mk (blk_below HX1.out hb2)
 clear hb2
 clear hz0 hzf0 hz1 hzf1 hz2 hzf2 hz3 hzf3 hz4 hzf4
 obtain ⟨hz0, hzf0, hz1, hzf1, hz2, hzf2, hz3, hzf3, hz4, hzf4⟩ := cells5 HX2.out
 go_wp2
 obtain ⟨wf, hwf, hF, HBf, HSf⟩ := putS (.func (.func ft) #[] #[]) (.func (.func fn) #[] #[]) (.func (.func fk) #[] ck) (.int .i64 0) (.bool false) HX2.out HB2.out HG.out HSH.out
 rw [hwf]
 obtain ⟨hcf0, _, hcf1, _, hcf2, _, hcf3, _, hcf4, _⟩ := cells5 hF
 refine bodyPost_ret (v := .tuple #[.agg #[.func (.func ft) #[] #[], .func (.func fn) #[] #[], .func (.func fk) #[] ck, .int .i64 0, .bool false], .bool true]) ?_ rfl ⟨_, _, _, by rw [hmk, hdc], HSf, HBf⟩
 simp [results, Tryz.results17, go_sem, hcf0, hcf1, hcf2, hcf3, hcf4]
set_option maxHeartbeats 8000000 in
set_option maxRecDepth 100000 in
theorem sh_2 (w : World) : Calls Tryz.prog 17 #[.int .i64 2] w (ShPost 2 w) := by
 go_enter Tryz.func17, Tryz.ntmps17
 go_wp2_with (first | ((with_reducible refine gate_dst (N := 2) rfl ?_); refine box_event ?hg (N := 2) ?hd (cs := #[.nilFunc, .nilFunc, .nilFunc, .int .i64 0, .bool false]) (t := 33) ?hr ?_; (case hd => rfl); (case hg => rfl); (case hr => first | (go_simp; done) | (go_simp; rfl)); intro g hg w1 hbox hb; have HG := Aside0.mk (show w.heap.size ≤ g by rw [hg]; exact Nat.le_refl _); have HB1 := Aside0.mk hb; have HX1 := Aside0.mk hbox; obtain ⟨hz0, hzf0, hz1, hzf1, hz2, hzf2, hz3, hzf3, hz4, hzf4⟩ := cells5 hbox; clear hbox hb hg))
 refine (of_2 _).mono ?_
 rintro e w2 ⟨T, Nf, K, rfl, hs, hb2⟩
 have hmk : mkB 2 = 1 := by simp [mkB]
 have hdc : dcB 2 = false := by simp [dcB]
 rw [hmk, hdc]
 obtain ⟨ft, fnt, hT, ht2⟩ := hs.t
 obtain ⟨fn, fnn, hN, hn2⟩ := hs.n
 obtain ⟨fk, fnk, ck, Sk, hK, hk2⟩ := hs.k
 have HSH := Aside0.mk hs
 clear hs ht2 hn2 hk2
 subst hT hN hK
 have HB2 := Aside0.mk (below_step HB1.out hb2)
 have HX2 := Aside0.mk (blk_below HX1.out hb2)
 clear hb2
 clear hz0 hzf0 hz1 hzf1 hz2 hzf2 hz3 hzf3 hz4 hzf4
 obtain ⟨hz0, hzf0, hz1, hzf1, hz2, hzf2, hz3, hzf3, hz4, hzf4⟩ := cells5 HX2.out
 go_wp2
 obtain ⟨wf, hwf, hF, HBf, HSf⟩ := putS (.func (.func ft) #[] #[]) (.func (.func fn) #[] #[]) (.func (.func fk) #[] ck) (.int .i64 1) (.bool false) HX2.out HB2.out HG.out HSH.out
 rw [hwf]
 obtain ⟨hcf0, _, hcf1, _, hcf2, _, hcf3, _, hcf4, _⟩ := cells5 hF
 refine bodyPost_ret (v := .tuple #[.agg #[.func (.func ft) #[] #[], .func (.func fn) #[] #[], .func (.func fk) #[] ck, .int .i64 1, .bool false], .bool true]) ?_ rfl ⟨_, _, _, by rw [hmk, hdc], HSf, HBf⟩
 simp [results, Tryz.results17, go_sem, hcf0, hcf1, hcf2, hcf3, hcf4]
set_option maxHeartbeats 8000000 in
set_option maxRecDepth 100000 in
theorem sh_3 (w : World) : Calls Tryz.prog 17 #[.int .i64 3] w (ShPost 3 w) := by
 go_enter Tryz.func17, Tryz.ntmps17
 go_wp2_with (first | ((with_reducible refine gate_dst (N := 2) rfl ?_); refine box_event ?hg (N := 2) ?hd (cs := #[.nilFunc, .nilFunc, .nilFunc, .int .i64 0, .bool false]) (t := 33) ?hr ?_; (case hd => rfl); (case hg => rfl); (case hr => first | (go_simp; done) | (go_simp; rfl)); intro g hg w1 hbox hb; have HG := Aside0.mk (show w.heap.size ≤ g by rw [hg]; exact Nat.le_refl _); have HB1 := Aside0.mk hb; have HX1 := Aside0.mk hbox; obtain ⟨hz0, hzf0, hz1, hzf1, hz2, hzf2, hz3, hzf3, hz4, hzf4⟩ := cells5 hbox; clear hbox hb hg))
 refine (of_3 _).mono ?_
 rintro e w2 ⟨T, Nf, K, rfl, hs, hb2⟩
 have hmk : mkB 3 = 0 := by simp [mkB]
 have hdc : dcB 3 = false := by simp [dcB]
 rw [hmk, hdc]
 obtain ⟨ft, fnt, hT, ht2⟩ := hs.t
 obtain ⟨fn, fnn, hN, hn2⟩ := hs.n
 obtain ⟨fk, fnk, ck, Sk, hK, hk2⟩ := hs.k
 have HSH := Aside0.mk hs
 clear hs ht2 hn2 hk2
 subst hT hN hK
 have HB2 := Aside0.mk (below_step HB1.out hb2)
 have HX2 := Aside0.mk (blk_below HX1.out hb2)
 clear hb2
 clear hz0 hzf0 hz1 hzf1 hz2 hzf2 hz3 hzf3 hz4 hzf4
 obtain ⟨hz0, hzf0, hz1, hzf1, hz2, hzf2, hz3, hzf3, hz4, hzf4⟩ := cells5 HX2.out
 go_wp2
 obtain ⟨wf, hwf, hF, HBf, HSf⟩ := putS (.func (.func ft) #[] #[]) (.func (.func fn) #[] #[]) (.func (.func fk) #[] ck) (.int .i64 0) (.bool false) HX2.out HB2.out HG.out HSH.out
 rw [hwf]
 obtain ⟨hcf0, _, hcf1, _, hcf2, _, hcf3, _, hcf4, _⟩ := cells5 hF
 refine bodyPost_ret (v := .tuple #[.agg #[.func (.func ft) #[] #[], .func (.func fn) #[] #[], .func (.func fk) #[] ck, .int .i64 0, .bool false], .bool true]) ?_ rfl ⟨_, _, _, by rw [hmk, hdc], HSf, HBf⟩
 simp [results, Tryz.results17, go_sem, hcf0, hcf1, hcf2, hcf3, hcf4]
set_option maxHeartbeats 8000000 in
set_option maxRecDepth 100000 in
theorem sh_4 (w : World) : Calls Tryz.prog 17 #[.int .i64 4] w (ShPost 4 w) := by
 go_enter Tryz.func17, Tryz.ntmps17
 go_wp2_with (first | ((with_reducible refine gate_dst (N := 2) rfl ?_); refine box_event ?hg (N := 2) ?hd (cs := #[.nilFunc, .nilFunc, .nilFunc, .int .i64 0, .bool false]) (t := 33) ?hr ?_; (case hd => rfl); (case hg => rfl); (case hr => first | (go_simp; done) | (go_simp; rfl)); intro g hg w1 hbox hb; have HG := Aside0.mk (show w.heap.size ≤ g by rw [hg]; exact Nat.le_refl _); have HB1 := Aside0.mk hb; have HX1 := Aside0.mk hbox; obtain ⟨hz0, hzf0, hz1, hzf1, hz2, hzf2, hz3, hzf3, hz4, hzf4⟩ := cells5 hbox; clear hbox hb hg))
 refine (of_4 _).mono ?_
 rintro e w2 ⟨T, Nf, K, rfl, hs, hb2⟩
 have hmk : mkB 4 = 0 := by simp [mkB]
 have hdc : dcB 4 = false := by simp [dcB]
 rw [hmk, hdc]
 obtain ⟨ft, fnt, hT, ht2⟩ := hs.t
 obtain ⟨fn, fnn, hN, hn2⟩ := hs.n
 obtain ⟨fk, fnk, ck, Sk, hK, hk2⟩ := hs.k
 have HSH := Aside0.mk hs
 clear hs ht2 hn2 hk2
 subst hT hN hK
 have HB2 := Aside0.mk (below_step HB1.out hb2)
 have HX2 := Aside0.mk (blk_below HX1.out hb2)
 clear hb2
 clear hz0 hzf0 hz1 hzf1 hz2 hzf2 hz3 hzf3 hz4 hzf4
 obtain ⟨hz0, hzf0, hz1, hzf1, hz2, hzf2, hz3, hzf3, hz4, hzf4⟩ := cells5 HX2.out
 go_wp2
 obtain ⟨wf, hwf, hF, HBf, HSf⟩ := putS (.func (.func ft) #[] #[]) (.func (.func fn) #[] #[]) (.func (.func fk) #[] ck) (.int .i64 0) (.bool false) HX2.out HB2.out HG.out HSH.out
 rw [hwf]
 obtain ⟨hcf0, _, hcf1, _, hcf2, _, hcf3, _, hcf4, _⟩ := cells5 hF
 refine bodyPost_ret (v := .tuple #[.agg #[.func (.func ft) #[] #[], .func (.func fn) #[] #[], .func (.func fk) #[] ck, .int .i64 0, .bool false], .bool true]) ?_ rfl ⟨_, _, _, by rw [hmk, hdc], HSf, HBf⟩
 simp [results, Tryz.results17, go_sem, hcf0, hcf1, hcf2, hcf3, hcf4]
set_option maxHeartbeats 8000000 in
set_option maxRecDepth 100000 in
theorem sh_5 (w : World) : Calls Tryz.prog 17 #[.int .i64 5] w (ShPost 5 w) := by
 go_enter Tryz.func17, Tryz.ntmps17
 go_wp2_with (first | ((with_reducible refine gate_dst (N := 2) rfl ?_); refine box_event ?hg (N := 2) ?hd (cs := #[.nilFunc, .nilFunc, .nilFunc, .int .i64 0, .bool false]) (t := 33) ?hr ?_; (case hd => rfl); (case hg => rfl); (case hr => first | (go_simp; done) | (go_simp; rfl)); intro g hg w1 hbox hb; have HG := Aside0.mk (show w.heap.size ≤ g by rw [hg]; exact Nat.le_refl _); have HB1 := Aside0.mk hb; have HX1 := Aside0.mk hbox; obtain ⟨hz0, hzf0, hz1, hzf1, hz2, hzf2, hz3, hzf3, hz4, hzf4⟩ := cells5 hbox; clear hbox hb hg))
 refine (of_5 _).mono ?_
 rintro e w2 ⟨T, Nf, K, rfl, hs, hb2⟩
 have hmk : mkB 5 = 0 := by simp [mkB]
 have hdc : dcB 5 = true := by simp [dcB]
 rw [hmk, hdc]
 obtain ⟨ft, fnt, hT, ht2⟩ := hs.t
 obtain ⟨fn, fnn, hN, hn2⟩ := hs.n
 obtain ⟨fk, fnk, ck, Sk, hK, hk2⟩ := hs.k
 have HSH := Aside0.mk hs
 clear hs ht2 hn2 hk2
 subst hT hN hK
 have HB2 := Aside0.mk (below_step HB1.out hb2)
 have HX2 := Aside0.mk (blk_below HX1.out hb2)
 clear hb2
 clear hz0 hzf0 hz1 hzf1 hz2 hzf2 hz3 hzf3 hz4 hzf4
 obtain ⟨hz0, hzf0, hz1, hzf1, hz2, hzf2, hz3, hzf3, hz4, hzf4⟩ := cells5 HX2.out
 go_wp2
 obtain ⟨wf, hwf, hF, HBf, HSf⟩ := putS (.func (.func ft) #[] #[]) (.func (.func fn) #[] #[]) (.func (.func fk) #[] ck) (.int .i64 0) (.bool true) HX2.out HB2.out HG.out HSH.out
 rw [hwf]
 obtain ⟨hcf0, _, hcf1, _, hcf2, _, hcf3, _, hcf4, _⟩ := cells5 hF
 refine bodyPost_ret (v := .tuple #[.agg #[.func (.func ft) #[] #[], .func (.func fn) #[] #[], .func (.func fk) #[] ck, .int .i64 0, .bool true], .bool true]) ?_ rfl ⟨_, _, _, by rw [hmk, hdc], HSf, HBf⟩
 simp [results, Tryz.results17, go_sem, hcf0, hcf1, hcf2, hcf3, hcf4]
set_option maxHeartbeats 8000000 in
set_option maxRecDepth 100000 in
theorem sh_6 (w : World) : Calls Tryz.prog 17 #[.int .i64 6] w (ShPost 6 w) := by
 go_enter Tryz.func17, Tryz.ntmps17
 go_wp2_with (first | ((with_reducible refine gate_dst (N := 2) rfl ?_); refine box_event ?hg (N := 2) ?hd (cs := #[.nilFunc, .nilFunc, .nilFunc, .int .i64 0, .bool false]) (t := 33) ?hr ?_; (case hd => rfl); (case hg => rfl); (case hr => first | (go_simp; done) | (go_simp; rfl)); intro g hg w1 hbox hb; have HG := Aside0.mk (show w.heap.size ≤ g by rw [hg]; exact Nat.le_refl _); have HB1 := Aside0.mk hb; have HX1 := Aside0.mk hbox; obtain ⟨hz0, hzf0, hz1, hzf1, hz2, hzf2, hz3, hzf3, hz4, hzf4⟩ := cells5 hbox; clear hbox hb hg))
 refine (of_6 _).mono ?_
 rintro e w2 ⟨T, Nf, K, rfl, hs, hb2⟩
 have hmk : mkB 6 = 0 := by simp [mkB]
 have hdc : dcB 6 = true := by simp [dcB]
 rw [hmk, hdc]
 obtain ⟨ft, fnt, hT, ht2⟩ := hs.t
 obtain ⟨fn, fnn, hN, hn2⟩ := hs.n
 obtain ⟨fk, fnk, ck, Sk, hK, hk2⟩ := hs.k
 have HSH := Aside0.mk hs
 clear hs ht2 hn2 hk2
 subst hT hN hK
 have HB2 := Aside0.mk (below_step HB1.out hb2)
 have HX2 := Aside0.mk (blk_below HX1.out hb2)
 clear hb2
 clear hz0 hzf0 hz1 hzf1 hz2 hzf2 hz3 hzf3 hz4 hzf4
 obtain ⟨hz0, hzf0, hz1, hzf1, hz2, hzf2, hz3, hzf3, hz4, hzf4⟩ := cells5 HX2.out
 go_wp2
 obtain ⟨wf, hwf, hF, HBf, HSf⟩ := putS (.func (.func ft) #[] #[]) (.func (.func fn) #[] #[]) (.func (.func fk) #[] ck) (.int .i64 0) (.bool true) HX2.out HB2.out HG.out HSH.out
 rw [hwf]
 obtain ⟨hcf0, _, hcf1, _, hcf2, _, hcf3, _, hcf4, _⟩ := cells5 hF
 refine bodyPost_ret (v := .tuple #[.agg #[.func (.func ft) #[] #[], .func (.func fn) #[] #[], .func (.func fk) #[] ck, .int .i64 0, .bool true], .bool true]) ?_ rfl ⟨_, _, _, by rw [hmk, hdc], HSf, HBf⟩
 simp [results, Tryz.results17, go_sem, hcf0, hcf1, hcf2, hcf3, hcf4]
set_option maxHeartbeats 8000000 in
set_option maxRecDepth 100000 in
theorem sh_7 (w : World) : Calls Tryz.prog 17 #[.int .i64 7] w (ShPost 7 w) := by
 go_enter Tryz.func17, Tryz.ntmps17
 go_wp2_with (first | ((with_reducible refine gate_dst (N := 2) rfl ?_); refine box_event ?hg (N := 2) ?hd (cs := #[.nilFunc, .nilFunc, .nilFunc, .int .i64 0, .bool false]) (t := 33) ?hr ?_; (case hd => rfl); (case hg => rfl); (case hr => first | (go_simp; done) | (go_simp; rfl)); intro g hg w1 hbox hb; have HG := Aside0.mk (show w.heap.size ≤ g by rw [hg]; exact Nat.le_refl _); have HB1 := Aside0.mk hb; have HX1 := Aside0.mk hbox; obtain ⟨hz0, hzf0, hz1, hzf1, hz2, hzf2, hz3, hzf3, hz4, hzf4⟩ := cells5 hbox; clear hbox hb hg))
 refine (of_7 _).mono ?_
 rintro e w2 ⟨T, Nf, K, rfl, hs, hb2⟩
 have hmk : mkB 7 = 0 := by simp [mkB]
 have hdc : dcB 7 = false := by simp [dcB]
 rw [hmk, hdc]
 obtain ⟨ft, fnt, hT, ht2⟩ := hs.t
 obtain ⟨fn, fnn, hN, hn2⟩ := hs.n
 obtain ⟨fk, fnk, ck, Sk, hK, hk2⟩ := hs.k
 have HSH := Aside0.mk hs
 clear hs ht2 hn2 hk2
 subst hT hN hK
 have HB2 := Aside0.mk (below_step HB1.out hb2)
 have HX2 := Aside0.mk (blk_below HX1.out hb2)
 clear hb2
 clear hz0 hzf0 hz1 hzf1 hz2 hzf2 hz3 hzf3 hz4 hzf4
 obtain ⟨hz0, hzf0, hz1, hzf1, hz2, hzf2, hz3, hzf3, hz4, hzf4⟩ := cells5 HX2.out
 go_wp2
 obtain ⟨wf, hwf, hF, HBf, HSf⟩ := putS (.func (.func ft) #[] #[]) (.func (.func fn) #[] #[]) (.func (.func fk) #[] ck) (.int .i64 0) (.bool false) HX2.out HB2.out HG.out HSH.out
 rw [hwf]
 obtain ⟨hcf0, _, hcf1, _, hcf2, _, hcf3, _, hcf4, _⟩ := cells5 hF
 refine bodyPost_ret (v := .tuple #[.agg #[.func (.func ft) #[] #[], .func (.func fn) #[] #[], .func (.func fk) #[] ck, .int .i64 0, .bool false], .bool true]) ?_ rfl ⟨_, _, _, by rw [hmk, hdc], HSf, HBf⟩
 simp [results, Tryz.results17, go_sem, hcf0, hcf1, hcf2, hcf3, hcf4]
set_option maxHeartbeats 8000000 in
set_option maxRecDepth 100000 in
theorem sh_8 (w : World) : Calls Tryz.prog 17 #[.int .i64 8] w (ShPost 8 w) := by
 go_enter Tryz.func17, Tryz.ntmps17
 go_wp2_with (first | ((with_reducible refine gate_dst (N := 2) rfl ?_); refine box_event ?hg (N := 2) ?hd (cs := #[.nilFunc, .nilFunc, .nilFunc, .int .i64 0, .bool false]) (t := 33) ?hr ?_; (case hd => rfl); (case hg => rfl); (case hr => first | (go_simp; done) | (go_simp; rfl)); intro g hg w1 hbox hb; have HG := Aside0.mk (show w.heap.size ≤ g by rw [hg]; exact Nat.le_refl _); have HB1 := Aside0.mk hb; have HX1 := Aside0.mk hbox; obtain ⟨hz0, hzf0, hz1, hzf1, hz2, hzf2, hz3, hzf3, hz4, hzf4⟩ := cells5 hbox; clear hbox hb hg))
 refine (of_8 _).mono ?_
 rintro e w2 ⟨T, Nf, K, rfl, hs, hb2⟩
 have hmk : mkB 8 = 0 := by simp [mkB]
 have hdc : dcB 8 = true := by simp [dcB]
 rw [hmk, hdc]
 obtain ⟨ft, fnt, hT, ht2⟩ := hs.t
 obtain ⟨fn, fnn, hN, hn2⟩ := hs.n
 obtain ⟨fk, fnk, ck, Sk, hK, hk2⟩ := hs.k
 have HSH := Aside0.mk hs
 clear hs ht2 hn2 hk2
 subst hT hN hK
 have HB2 := Aside0.mk (below_step HB1.out hb2)
 have HX2 := Aside0.mk (blk_below HX1.out hb2)
 clear hb2
 clear hz0 hzf0 hz1 hzf1 hz2 hzf2 hz3 hzf3 hz4 hzf4
 obtain ⟨hz0, hzf0, hz1, hzf1, hz2, hzf2, hz3, hzf3, hz4, hzf4⟩ := cells5 HX2.out
 go_wp2
 obtain ⟨wf, hwf, hF, HBf, HSf⟩ := putS (.func (.func ft) #[] #[]) (.func (.func fn) #[] #[]) (.func (.func fk) #[] ck) (.int .i64 0) (.bool true) HX2.out HB2.out HG.out HSH.out
 rw [hwf]
 obtain ⟨hcf0, _, hcf1, _, hcf2, _, hcf3, _, hcf4, _⟩ := cells5 hF
 refine bodyPost_ret (v := .tuple #[.agg #[.func (.func ft) #[] #[], .func (.func fn) #[] #[], .func (.func fk) #[] ck, .int .i64 0, .bool true], .bool true]) ?_ rfl ⟨_, _, _, by rw [hmk, hdc], HSf, HBf⟩
 simp [results, Tryz.results17, go_sem, hcf0, hcf1, hcf2, hcf3, hcf4]
set_option maxHeartbeats 8000000 in
set_option maxRecDepth 100000 in
theorem sh_9 (w : World) : Calls Tryz.prog 17 #[.int .i64 9] w (ShPost 9 w) := by
 go_enter Tryz.func17, Tryz.ntmps17
 go_wp2_with (first | ((with_reducible refine gate_dst (N := 2) rfl ?_); refine box_event ?hg (N := 2) ?hd (cs := #[.nilFunc, .nilFunc, .nilFunc, .int .i64 0, .bool false]) (t := 33) ?hr ?_; (case hd => rfl); (case hg => rfl); (case hr => first | (go_simp; done) | (go_simp; rfl)); intro g hg w1 hbox hb; have HG := Aside0.mk (show w.heap.size ≤ g by rw [hg]; exact Nat.le_refl _); have HB1 := Aside0.mk hb; have HX1 := Aside0.mk hbox; obtain ⟨hz0, hzf0, hz1, hzf1, hz2, hzf2, hz3, hzf3, hz4, hzf4⟩ := cells5 hbox; clear hbox hb hg))
 refine (of_9 _).mono ?_
 rintro e w2 ⟨T, Nf, K, rfl, hs, hb2⟩
 have hmk : mkB 9 = 3 := by simp [mkB]
 have hdc : dcB 9 = true := by simp [dcB]
 rw [hmk, hdc]
 obtain ⟨ft, fnt, hT, ht2⟩ := hs.t
 obtain ⟨fn, fnn, hN, hn2⟩ := hs.n
 obtain ⟨fk, fnk, ck, Sk, hK, hk2⟩ := hs.k
 have HSH := Aside0.mk hs
 clear hs ht2 hn2 hk2
 subst hT hN hK
 have HB2 := Aside0.mk (below_step HB1.out hb2)
 have HX2 := Aside0.mk (blk_below HX1.out hb2)
 clear hb2
 clear hz0 hzf0 hz1 hzf1 hz2 hzf2 hz3 hzf3 hz4 hzf4
 obtain ⟨hz0, hzf0, hz1, hzf1, hz2, hzf2, hz3, hzf3, hz4, hzf4⟩ := cells5 HX2.out
 go_wp2
 obtain ⟨wf, hwf, hF, HBf, HSf⟩ := putS (.func (.func ft) #[] #[]) (.func (.func fn) #[] #[]) (.func (.func fk) #[] ck) (.int .i64 3) (.bool true) HX2.out HB2.out HG.out HSH.out
 rw [hwf]
 obtain ⟨hcf0, _, hcf1, _, hcf2, _, hcf3, _, hcf4, _⟩ := cells5 hF
 refine bodyPost_ret (v := .tuple #[.agg #[.func (.func ft) #[] #[], .func (.func fn) #[] #[], .func (.func fk) #[] ck, .int .i64 3, .bool true], .bool true]) ?_ rfl ⟨_, _, _, by rw [hmk, hdc], HSf, HBf⟩
 simp [results, Tryz.results17, go_sem, hcf0, hcf1, hcf2, hcf3, hcf4]
set_option maxHeartbeats 8000000 in
set_option maxRecDepth 100000 in
theorem sh_10 (w : World) : Calls Tryz.prog 17 #[.int .i64 10] w (ShPost 10 w) := by
 go_enter Tryz.func17, Tryz.ntmps17
 go_wp2_with (first | ((with_reducible refine gate_dst (N := 2) rfl ?_); refine box_event ?hg (N := 2) ?hd (cs := #[.nilFunc, .nilFunc, .nilFunc, .int .i64 0, .bool false]) (t := 33) ?hr ?_; (case hd => rfl); (case hg => rfl); (case hr => first | (go_simp; done) | (go_simp; rfl)); intro g hg w1 hbox hb; have HG := Aside0.mk (show w.heap.size ≤ g by rw [hg]; exact Nat.le_refl _); have HB1 := Aside0.mk hb; have HX1 := Aside0.mk hbox; obtain ⟨hz0, hzf0, hz1, hzf1, hz2, hzf2, hz3, hzf3, hz4, hzf4⟩ := cells5 hbox; clear hbox hb hg))
 refine (of_10 _).mono ?_
 rintro e w2 ⟨T, Nf, K, rfl, hs, hb2⟩
 have hmk : mkB 10 = 0 := by simp [mkB]
 have hdc : dcB 10 = true := by simp [dcB]
 rw [hmk, hdc]
 obtain ⟨ft, fnt, hT, ht2⟩ := hs.t
 obtain ⟨fn, fnn, hN, hn2⟩ := hs.n
 obtain ⟨fk, fnk, ck, Sk, hK, hk2⟩ := hs.k
 have HSH := Aside0.mk hs
 clear hs ht2 hn2 hk2
 subst hT hN hK
 have HB2 := Aside0.mk (below_step HB1.out hb2)
 have HX2 := Aside0.mk (blk_below HX1.out hb2)
 clear hb2
 clear hz0 hzf0 hz1 hzf1 hz2 hzf2 hz3 hzf3 hz4 hzf4
 obtain ⟨hz0, hzf0, hz1, hzf1, hz2, hzf2, hz3, hzf3, hz4, hzf4⟩ := cells5 HX2.out
 go_wp2
 obtain ⟨wf, hwf, hF, HBf, HSf⟩ := putS (.func (.func ft) #[] #[]) (.func (.func fn) #[] #[]) (.func (.func fk) #[] ck) (.int .i64 0) (.bool true) HX2.out HB2.out HG.out HSH.out
 rw [hwf]
 obtain ⟨hcf0, _, hcf1, _, hcf2, _, hcf3, _, hcf4, _⟩ := cells5 hF
 refine bodyPost_ret (v := .tuple #[.agg #[.func (.func ft) #[] #[], .func (.func fn) #[] #[], .func (.func fk) #[] ck, .int .i64 0, .bool true], .bool true]) ?_ rfl ⟨_, _, _, by rw [hmk, hdc], HSf, HBf⟩
 simp [results, Tryz.results17, go_sem, hcf0, hcf1, hcf2, hcf3, hcf4]
set_option maxHeartbeats 8000000 in
set_option maxRecDepth 100000 in
theorem sh_11 (w : World) : Calls Tryz.prog 17 #[.int .i64 11] w (ShPost 11 w) := by
 go_enter Tryz.func17, Tryz.ntmps17
 go_wp2_with (first | ((with_reducible refine gate_dst (N := 2) rfl ?_); refine box_event ?hg (N := 2) ?hd (cs := #[.nilFunc, .nilFunc, .nilFunc, .int .i64 0, .bool false]) (t := 33) ?hr ?_; (case hd => rfl); (case hg => rfl); (case hr => first | (go_simp; done) | (go_simp; rfl)); intro g hg w1 hbox hb; have HG := Aside0.mk (show w.heap.size ≤ g by rw [hg]; exact Nat.le_refl _); have HB1 := Aside0.mk hb; have HX1 := Aside0.mk hbox; obtain ⟨hz0, hzf0, hz1, hzf1, hz2, hzf2, hz3, hzf3, hz4, hzf4⟩ := cells5 hbox; clear hbox hb hg))
 refine (of_11 _).mono ?_
 rintro e w2 ⟨T, Nf, K, rfl, hs, hb2⟩
 have hmk : mkB 11 = 0 := by simp [mkB]
 have hdc : dcB 11 = true := by simp [dcB]
 rw [hmk, hdc]
 obtain ⟨ft, fnt, hT, ht2⟩ := hs.t
 obtain ⟨fn, fnn, hN, hn2⟩ := hs.n
 obtain ⟨fk, fnk, ck, Sk, hK, hk2⟩ := hs.k
 have HSH := Aside0.mk hs
 clear hs ht2 hn2 hk2
 subst hT hN hK
 have HB2 := Aside0.mk (below_step HB1.out hb2)
 have HX2 := Aside0.mk (blk_below HX1.out hb2)
 clear hb2
 clear hz0 hzf0 hz1 hzf1 hz2 hzf2 hz3 hzf3 hz4 hzf4
 obtain ⟨hz0, hzf0, hz1, hzf1, hz2, hzf2, hz3, hzf3, hz4, hzf4⟩ := cells5 HX2.out
 go_wp2
 obtain ⟨wf, hwf, hF, HBf, HSf⟩ := putS (.func (.func ft) #[] #[]) (.func (.func fn) #[] #[]) (.func (.func fk) #[] ck) (.int .i64 0) (.bool true) HX2.out HB2.out HG.out HSH.out
 rw [hwf]
 obtain ⟨hcf0, _, hcf1, _, hcf2, _, hcf3, _, hcf4, _⟩ := cells5 hF
 refine bodyPost_ret (v := .tuple #[.agg #[.func (.func ft) #[] #[], .func (.func fn) #[] #[], .func (.func fk) #[] ck, .int .i64 0, .bool true], .bool true]) ?_ rfl ⟨_, _, _, by rw [hmk, hdc], HSf, HBf⟩
 simp [results, Tryz.results17, go_sem, hcf0, hcf1, hcf2, hcf3, hcf4]
set_option maxHeartbeats 8000000 in
set_option maxRecDepth 100000 in
theorem sh_12 (w : World) : Calls Tryz.prog 17 #[.int .i64 12] w (ShPost 12 w) := by
 go_enter Tryz.func17, Tryz.ntmps17
 go_wp2_with (first | ((with_reducible refine gate_dst (N := 2) rfl ?_); refine box_event ?hg (N := 2) ?hd (cs := #[.nilFunc, .nilFunc, .nilFunc, .int .i64 0, .bool false]) (t := 33) ?hr ?_; (case hd => rfl); (case hg => rfl); (case hr => first | (go_simp; done) | (go_simp; rfl)); intro g hg w1 hbox hb; have HG := Aside0.mk (show w.heap.size ≤ g by rw [hg]; exact Nat.le_refl _); have HB1 := Aside0.mk hb; have HX1 := Aside0.mk hbox; obtain ⟨hz0, hzf0, hz1, hzf1, hz2, hzf2, hz3, hzf3, hz4, hzf4⟩ := cells5 hbox; clear hbox hb hg))
 refine (of_12 _).mono ?_
 rintro e w2 ⟨T, Nf, K, rfl, hs, hb2⟩
 have hmk : mkB 12 = 0 := by simp [mkB]
 have hdc : dcB 12 = false := by simp [dcB]
 rw [hmk, hdc]
 obtain ⟨ft, fnt, hT, ht2⟩ := hs.t
 obtain ⟨fn, fnn, hN, hn2⟩ := hs.n
 obtain ⟨fk, fnk, ck, Sk, hK, hk2⟩ := hs.k
 have HSH := Aside0.mk hs
 clear hs ht2 hn2 hk2
 subst hT hN hK
 have HB2 := Aside0.mk (below_step HB1.out hb2)
 have HX2 := Aside0.mk (blk_below HX1.out hb2)
 clear hb2
 clear hz0 hzf0 hz1 hzf1 hz2 hzf2 hz3 hzf3 hz4 hzf4
 obtain ⟨hz0, hzf0, hz1, hzf1, hz2, hzf2, hz3, hzf3, hz4, hzf4⟩ := cells5 HX2.out
 go_wp2
 obtain ⟨wf, hwf, hF, HBf, HSf⟩ := putS (.func (.func ft) #[] #[]) (.func (.func fn) #[] #[]) (.func (.func fk) #[] ck) (.int .i64 0) (.bool false) HX2.out HB2.out HG.out HSH.out
 rw [hwf]
 obtain ⟨hcf0, _, hcf1, _, hcf2, _, hcf3, _, hcf4, _⟩ := cells5 hF
 refine bodyPost_ret (v := .tuple #[.agg #[.func (.func ft) #[] #[], .func (.func fn) #[] #[], .func (.func fk) #[] ck, .int .i64 0, .bool false], .bool true]) ?_ rfl ⟨_, _, _, by rw [hmk, hdc], HSf, HBf⟩
 simp [results, Tryz.results17, go_sem, hcf0, hcf1, hcf2, hcf3, hcf4]
set_option maxHeartbeats 8000000 in
set_option maxRecDepth 100000 in
theorem sh_13 (w : World) : Calls Tryz.prog 17 #[.int .i64 13] w (ShPost 13 w) := by
 go_enter Tryz.func17, Tryz.ntmps17
 go_wp2_with (first | ((with_reducible refine gate_dst (N := 2) rfl ?_); refine box_event ?hg (N := 2) ?hd (cs := #[.nilFunc, .nilFunc, .nilFunc, .int .i64 0, .bool false]) (t := 33) ?hr ?_; (case hd => rfl); (case hg => rfl); (case hr => first | (go_simp; done) | (go_simp; rfl)); intro g hg w1 hbox hb; have HG := Aside0.mk (show w.heap.size ≤ g by rw [hg]; exact Nat.le_refl _); have HB1 := Aside0.mk hb; have HX1 := Aside0.mk hbox; obtain ⟨hz0, hzf0, hz1, hzf1, hz2, hzf2, hz3, hzf3, hz4, hzf4⟩ := cells5 hbox; clear hbox hb hg))
 refine (of_13 _).mono ?_
 rintro e w2 ⟨T, Nf, K, rfl, hs, hb2⟩
 have hmk : mkB 13 = 0 := by simp [mkB]
 have hdc : dcB 13 = false := by simp [dcB]
 rw [hmk, hdc]
 obtain ⟨ft, fnt, hT, ht2⟩ := hs.t
 obtain ⟨fn, fnn, hN, hn2⟩ := hs.n
 obtain ⟨fk, fnk, ck, Sk, hK, hk2⟩ := hs.k
 have HSH := Aside0.mk hs
 clear hs ht2 hn2 hk2
 subst hT hN hK
 have HB2 := Aside0.mk (below_step HB1.out hb2)
 have HX2 := Aside0.mk (blk_below HX1.out hb2)
 clear hb2
 clear hz0 hzf0 hz1 hzf1 hz2 hzf2 hz3 hzf3 hz4 hzf4
 obtain ⟨hz0, hzf0, hz1, hzf1, hz2, hzf2, hz3, hzf3, hz4, hzf4⟩ := cells5 HX2.out
 go_wp2
 obtain ⟨wf, hwf, hF, HBf, HSf⟩ := putS (.func (.func ft) #[] #[]) (.func (.func fn) #[] #[]) (.func (.func fk) #[] ck) (.int .i64 0) (.bool false) HX2.out HB2.out HG.out HSH.out
 rw [hwf]
 obtain ⟨hcf0, _, hcf1, _, hcf2, _, hcf3, _, hcf4, _⟩ := cells5 hF
 refine bodyPost_ret (v := .tuple #[.agg #[.func (.func ft) #[] #[], .func (.func fn) #[] #[], .func (.func fk) #[] ck, .int .i64 0, .bool false], .bool true]) ?_ rfl ⟨_, _, _, by rw [hmk, hdc], HSf, HBf⟩
 simp [results, Tryz.results17, go_sem, hcf0, hcf1, hcf2, hcf3, hcf4]
set_option maxHeartbeats 8000000 in
set_option maxRecDepth 100000 in
theorem sh_14 (w : World) : Calls Tryz.prog 17 #[.int .i64 14] w (ShPost 14 w) := by
 go_enter Tryz.func17, Tryz.ntmps17
 go_wp2_with (first | ((with_reducible refine gate_dst (N := 2) rfl ?_); refine box_event ?hg (N := 2) ?hd (cs := #[.nilFunc, .nilFunc, .nilFunc, .int .i64 0, .bool false]) (t := 33) ?hr ?_; (case hd => rfl); (case hg => rfl); (case hr => first | (go_simp; done) | (go_simp; rfl)); intro g hg w1 hbox hb; have HG := Aside0.mk (show w.heap.size ≤ g by rw [hg]; exact Nat.le_refl _); have HB1 := Aside0.mk hb; have HX1 := Aside0.mk hbox; obtain ⟨hz0, hzf0, hz1, hzf1, hz2, hzf2, hz3, hzf3, hz4, hzf4⟩ := cells5 hbox; clear hbox hb hg))
 refine (of_14 _).mono ?_
 rintro e w2 ⟨T, Nf, K, rfl, hs, hb2⟩
 have hmk : mkB 14 = 0 := by simp [mkB]
 have hdc : dcB 14 = false := by simp [dcB]
 rw [hmk, hdc]
 obtain ⟨ft, fnt, hT, ht2⟩ := hs.t
 obtain ⟨fn, fnn, hN, hn2⟩ := hs.n
 obtain ⟨fk, fnk, ck, Sk, hK, hk2⟩ := hs.k
 have HSH := Aside0.mk hs
 clear hs ht2 hn2 hk2
 subst hT hN hK
 have HB2 := Aside0.mk (below_step HB1.out hb2)
 have HX2 := Aside0.mk (blk_below HX1.out hb2)
 clear hb2
 clear hz0 hzf0 hz1 hzf1 hz2 hzf2 hz3 hzf3 hz4 hzf4
 obtain ⟨hz0, hzf0, hz1, hzf1, hz2, hzf2, hz3, hzf3, hz4, hzf4⟩ := cells5 HX2.out
 go_wp2
 obtain ⟨wf, hwf, hF, HBf, HSf⟩ := putS (.func (.func ft) #[] #[]) (.func (.func fn) #[] #[]) (.func (.func fk) #[] ck) (.int .i64 0) (.bool false) HX2.out HB2.out HG.out HSH.out
 rw [hwf]
 obtain ⟨hcf0, _, hcf1, _, hcf2, _, hcf3, _, hcf4, _⟩ := cells5 hF
 refine bodyPost_ret (v := .tuple #[.agg #[.func (.func ft) #[] #[], .func (.func fn) #[] #[], .func (.func fk) #[] ck, .int .i64 0, .bool false], .bool true]) ?_ rfl ⟨_, _, _, by rw [hmk, hdc], HSf, HBf⟩
 simp [results, Tryz.results17, go_sem, hcf0, hcf1, hcf2, hcf3, hcf4]
set_option maxHeartbeats 8000000 in
set_option maxRecDepth 100000 in
theorem sh_15 (w : World) : Calls Tryz.prog 17 #[.int .i64 15] w (ShPost 15 w) := by
 go_enter Tryz.func17, Tryz.ntmps17
 go_wp2_with (first | ((with_reducible refine gate_dst (N := 2) rfl ?_); refine box_event ?hg (N := 2) ?hd (cs := #[.nilFunc, .nilFunc, .nilFunc, .int .i64 0, .bool false]) (t := 33) ?hr ?_; (case hd => rfl); (case hg => rfl); (case hr => first | (go_simp; done) | (go_simp; rfl)); intro g hg w1 hbox hb; have HG := Aside0.mk (show w.heap.size ≤ g by rw [hg]; exact Nat.le_refl _); have HB1 := Aside0.mk hb; have HX1 := Aside0.mk hbox; obtain ⟨hz0, hzf0, hz1, hzf1, hz2, hzf2, hz3, hzf3, hz4, hzf4⟩ := cells5 hbox; clear hbox hb hg))
 refine (of_15 _).mono ?_
 rintro e w2 ⟨T, Nf, K, rfl, hs, hb2⟩
 have hmk : mkB 15 = 0 := by simp [mkB]
 have hdc : dcB 15 = false := by simp [dcB]
 rw [hmk, hdc]
 obtain ⟨ft, fnt, hT, ht2⟩ := hs.t
 obtain ⟨fn, fnn, hN, hn2⟩ := hs.n
 obtain ⟨fk, fnk, ck, Sk, hK, hk2⟩ := hs.k
 have HSH := Aside0.mk hs
 clear hs ht2 hn2 hk2
 subst hT hN hK
 have HB2 := Aside0.mk (below_step HB1.out hb2)
 have HX2 := Aside0.mk (blk_below HX1.out hb2)
 clear hb2
 clear hz0 hzf0 hz1 hzf1 hz2 hzf2 hz3 hzf3 hz4 hzf4
 obtain ⟨hz0, hzf0, hz1, hzf1, hz2, hzf2, hz3, hzf3, hz4, hzf4⟩ := cells5 HX2.out
 go_wp2
 obtain ⟨wf, hwf, hF, HBf, HSf⟩ := putS (.func (.func ft) #[] #[]) (.func (.func fn) #[] #[]) (.func (.func fk) #[] ck) (.int .i64 0) (.bool false) HX2.out HB2.out HG.out HSH.out
 rw [hwf]
 obtain ⟨hcf0, _, hcf1, _, hcf2, _, hcf3, _, hcf4, _⟩ := cells5 hF
 refine bodyPost_ret (v := .tuple #[.agg #[.func (.func ft) #[] #[], .func (.func fn) #[] #[], .func (.func fk) #[] ck, .int .i64 0, .bool false], .bool true]) ?_ rfl ⟨_, _, _, by rw [hmk, hdc], HSf, HBf⟩
 simp [results, Tryz.results17, go_sem, hcf0, hcf1, hcf2, hcf3, hcf4]
set_option maxHeartbeats 8000000 in
set_option maxRecDepth 100000 in
theorem sh_16 (w : World) : Calls Tryz.prog 17 #[.int .i64 16] w (ShPost 16 w) := by
 go_enter Tryz.func17, Tryz.ntmps17
 go_wp2_with (first | ((with_reducible refine gate_dst (N := 2) rfl ?_); refine box_event ?hg (N := 2) ?hd (cs := #[.nilFunc, .nilFunc, .nilFunc, .int .i64 0, .bool false]) (t := 33) ?hr ?_; (case hd => rfl); (case hg => rfl); (case hr => first | (go_simp; done) | (go_simp; rfl)); intro g hg w1 hbox hb; have HG := Aside0.mk (show w.heap.size ≤ g by rw [hg]; exact Nat.le_refl _); have HB1 := Aside0.mk hb; have HX1 := Aside0.mk hbox; obtain ⟨hz0, hzf0, hz1, hzf1, hz2, hzf2, hz3, hzf3, hz4, hzf4⟩ := cells5 hbox; clear hbox hb hg))
 refine (of_16 _).mono ?_
 rintro e w2 ⟨T, Nf, K, rfl, hs, hb2⟩
 have hmk : mkB 16 = 0 := by simp [mkB]
 have hdc : dcB 16 = true := by simp [dcB]
 rw [hmk, hdc]
 obtain ⟨ft, fnt, hT, ht2⟩ := hs.t
 obtain ⟨fn, fnn, hN, hn2⟩ := hs.n
 obtain ⟨fk, fnk, ck, Sk, hK, hk2⟩ := hs.k
 have HSH := Aside0.mk hs
 clear hs ht2 hn2 hk2
 subst hT hN hK
 have HB2 := Aside0.mk (below_step HB1.out hb2)
 have HX2 := Aside0.mk (blk_below HX1.out hb2)
 clear hb2
 clear hz0 hzf0 hz1 hzf1 hz2 hzf2 hz3 hzf3 hz4 hzf4
 obtain ⟨hz0, hzf0, hz1, hzf1, hz2, hzf2, hz3, hzf3, hz4, hzf4⟩ := cells5 HX2.out
 go_wp2
 obtain ⟨wf, hwf, hF, HBf, HSf⟩ := putS (.func (.func ft) #[] #[]) (.func (.func fn) #[] #[]) (.func (.func fk) #[] ck) (.int .i64 0) (.bool true) HX2.out HB2.out HG.out HSH.out
 rw [hwf]
 obtain ⟨hcf0, _, hcf1, _, hcf2, _, hcf3, _, hcf4, _⟩ := cells5 hF
 refine bodyPost_ret (v := .tuple #[.agg #[.func (.func ft) #[] #[], .func (.func fn) #[] #[], .func (.func fk) #[] ck, .int .i64 0, .bool true], .bool true]) ?_ rfl ⟨_, _, _, by rw [hmk, hdc], HSf, HBf⟩
 simp [results, Tryz.results17, go_sem, hcf0, hcf1, hcf2, hcf3, hcf4]
set_option maxHeartbeats 8000000 in
set_option maxRecDepth 100000 in
theorem sh_17 (w : World) : Calls Tryz.prog 17 #[.int .i64 17] w (ShPost 17 w) := by
 go_enter Tryz.func17, Tryz.ntmps17
 go_wp2_with (first | ((with_reducible refine gate_dst (N := 2) rfl ?_); refine box_event ?hg (N := 2) ?hd (cs := #[.nilFunc, .nilFunc, .nilFunc, .int .i64 0, .bool false]) (t := 33) ?hr ?_; (case hd => rfl); (case hg => rfl); (case hr => first | (go_simp; done) | (go_simp; rfl)); intro g hg w1 hbox hb; have HG := Aside0.mk (show w.heap.size ≤ g by rw [hg]; exact Nat.le_refl _); have HB1 := Aside0.mk hb; have HX1 := Aside0.mk hbox; obtain ⟨hz0, hzf0, hz1, hzf1, hz2, hzf2, hz3, hzf3, hz4, hzf4⟩ := cells5 hbox; clear hbox hb hg))
 refine (of_17 _).mono ?_
 rintro e w2 ⟨T, Nf, K, rfl, hs, hb2⟩
 have hmk : mkB 17 = 3 := by simp [mkB]
 have hdc : dcB 17 = true := by simp [dcB]
 rw [hmk, hdc]
 obtain ⟨ft, fnt, hT, ht2⟩ := hs.t
 obtain ⟨fn, fnn, hN, hn2⟩ := hs.n
 obtain ⟨fk, fnk, ck, Sk, hK, hk2⟩ := hs.k
 have HSH := Aside0.mk hs
 clear hs ht2 hn2 hk2
 subst hT hN hK
 have HB2 := Aside0.mk (below_step HB1.out hb2)
 have HX2 := Aside0.mk (blk_below HX1.out hb2)
 clear hb2
 clear hz0 hzf0 hz1 hzf1 hz2 hzf2 hz3 hzf3 hz4 hzf4
 obtain ⟨hz0, hzf0, hz1, hzf1, hz2, hzf2, hz3, hzf3, hz4, hzf4⟩ := cells5 HX2.out
 go_wp2
 obtain ⟨wf, hwf, hF, HBf, HSf⟩ := putS (.func (.func ft) #[] #[]) (.func (.func fn) #[] #[]) (.func (.func fk) #[] ck) (.int .i64 3) (.bool true) HX2.out HB2.out HG.out HSH.out
 rw [hwf]
 obtain ⟨hcf0, _, hcf1, _, hcf2, _, hcf3, _, hcf4, _⟩ := cells5 hF
 refine bodyPost_ret (v := .tuple #[.agg #[.func (.func ft) #[] #[], .func (.func fn) #[] #[], .func (.func fk) #[] ck, .int .i64 3, .bool true], .bool true]) ?_ rfl ⟨_, _, _, by rw [hmk, hdc], HSf, HBf⟩
 simp [results, Tryz.results17, go_sem, hcf0, hcf1, hcf2, hcf3, hcf4]
set_option maxHeartbeats 8000000 in
set_option maxRecDepth 100000 in
theorem sh_18 (w : World) : Calls Tryz.prog 17 #[.int .i64 18] w (ShPost 18 w) := by
 go_enter Tryz.func17, Tryz.ntmps17
 go_wp2_with (first | ((with_reducible refine gate_dst (N := 2) rfl ?_); refine box_event ?hg (N := 2) ?hd (cs := #[.nilFunc, .nilFunc, .nilFunc, .int .i64 0, .bool false]) (t := 33) ?hr ?_; (case hd => rfl); (case hg => rfl); (case hr => first | (go_simp; done) | (go_simp; rfl)); intro g hg w1 hbox hb; have HG := Aside0.mk (show w.heap.size ≤ g by rw [hg]; exact Nat.le_refl _); have HB1 := Aside0.mk hb; have HX1 := Aside0.mk hbox; obtain ⟨hz0, hzf0, hz1, hzf1, hz2, hzf2, hz3, hzf3, hz4, hzf4⟩ := cells5 hbox; clear hbox hb hg))
 refine (of_18 _).mono ?_
 rintro e w2 ⟨T, Nf, K, rfl, hs, hb2⟩
 have hmk : mkB 18 = 0 := by simp [mkB]
 have hdc : dcB 18 = false := by simp [dcB]
 rw [hmk, hdc]
 obtain ⟨ft, fnt, hT, ht2⟩ := hs.t
 obtain ⟨fn, fnn, hN, hn2⟩ := hs.n
 obtain ⟨fk, fnk, ck, Sk, hK, hk2⟩ := hs.k
 have HSH := Aside0.mk hs
 clear hs ht2 hn2 hk2
 subst hT hN hK
 have HB2 := Aside0.mk (below_step HB1.out hb2)
 have HX2 := Aside0.mk (blk_below HX1.out hb2)
 clear hb2
 clear hz0 hzf0 hz1 hzf1 hz2 hzf2 hz3 hzf3 hz4 hzf4
 obtain ⟨hz0, hzf0, hz1, hzf1, hz2, hzf2, hz3, hzf3, hz4, hzf4⟩ := cells5 HX2.out
 go_wp2
 obtain ⟨wf, hwf, hF, HBf, HSf⟩ := putS (.func (.func ft) #[] #[]) (.func (.func fn) #[] #[]) (.func (.func fk) #[] ck) (.int .i64 0) (.bool false) HX2.out HB2.out HG.out HSH.out
 rw [hwf]
 obtain ⟨hcf0, _, hcf1, _, hcf2, _, hcf3, _, hcf4, _⟩ := cells5 hF
 refine bodyPost_ret (v := .tuple #[.agg #[.func (.func ft) #[] #[], .func (.func fn) #[] #[], .func (.func fk) #[] ck, .int .i64 0, .bool false], .bool true]) ?_ rfl ⟨_, _, _, by rw [hmk, hdc], HSf, HBf⟩
 simp [results, Tryz.results17, go_sem, hcf0, hcf1, hcf2, hcf3, hcf4]
set_option maxHeartbeats 8000000 in
set_option maxRecDepth 100000 in
theorem sh_19 (w : World) : Calls Tryz.prog 17 #[.int .i64 19] w (ShPost 19 w) := by
 go_enter Tryz.func17, Tryz.ntmps17
 go_wp2_with (first | ((with_reducible refine gate_dst (N := 2) rfl ?_); refine box_event ?hg (N := 2) ?hd (cs := #[.nilFunc, .nilFunc, .nilFunc, .int .i64 0, .bool false]) (t := 33) ?hr ?_; (case hd => rfl); (case hg => rfl); (case hr => first | (go_simp; done) | (go_simp; rfl)); intro g hg w1 hbox hb; have HG := Aside0.mk (show w.heap.size ≤ g by rw [hg]; exact Nat.le_refl _); have HB1 := Aside0.mk hb; have HX1 := Aside0.mk hbox; obtain ⟨hz0, hzf0, hz1, hzf1, hz2, hzf2, hz3, hzf3, hz4, hzf4⟩ := cells5 hbox; clear hbox hb hg))
 refine (of_19 _).mono ?_
 rintro e w2 ⟨T, Nf, K, rfl, hs, hb2⟩
 have hmk : mkB 19 = 1 := by simp [mkB]
 have hdc : dcB 19 = false := by simp [dcB]
 rw [hmk, hdc]
 obtain ⟨ft, fnt, hT, ht2⟩ := hs.t
 obtain ⟨fn, fnn, hN, hn2⟩ := hs.n
 obtain ⟨fk, fnk, ck, Sk, hK, hk2⟩ := hs.k
 have HSH := Aside0.mk hs
 clear hs ht2 hn2 hk2
 subst hT hN hK
 have HB2 := Aside0.mk (below_step HB1.out hb2)
 have HX2 := Aside0.mk (blk_below HX1.out hb2)
 clear hb2
 clear hz0 hzf0 hz1 hzf1 hz2 hzf2 hz3 hzf3 hz4 hzf4
 obtain ⟨hz0, hzf0, hz1, hzf1, hz2, hzf2, hz3, hzf3, hz4, hzf4⟩ := cells5 HX2.out
 go_wp2
 obtain ⟨wf, hwf, hF, HBf, HSf⟩ := putS (.func (.func ft) #[] #[]) (.func (.func fn) #[] #[]) (.func (.func fk) #[] ck) (.int .i64 1) (.bool false) HX2.out HB2.out HG.out HSH.out
 rw [hwf]
 obtain ⟨hcf0, _, hcf1, _, hcf2, _, hcf3, _, hcf4, _⟩ := cells5 hF
 refine bodyPost_ret (v := .tuple #[.agg #[.func (.func ft) #[] #[], .func (.func fn) #[] #[], .func (.func fk) #[] ck, .int .i64 1, .bool false], .bool true]) ?_ rfl ⟨_, _, _, by rw [hmk, hdc], HSf, HBf⟩
 simp [results, Tryz.results17, go_sem, hcf0, hcf1, hcf2, hcf3, hcf4]
set_option maxHeartbeats 8000000 in
set_option maxRecDepth 100000 in
theorem sh_20 (w : World) : Calls Tryz.prog 17 #[.int .i64 20] w (ShPost 20 w) := by
 go_enter Tryz.func17, Tryz.ntmps17
 go_wp2_with (first | ((with_reducible refine gate_dst (N := 2) rfl ?_); refine box_event ?hg (N := 2) ?hd (cs := #[.nilFunc, .nilFunc, .nilFunc, .int .i64 0, .bool false]) (t := 33) ?hr ?_; (case hd => rfl); (case hg => rfl); (case hr => first | (go_simp; done) | (go_simp; rfl)); intro g hg w1 hbox hb; have HG := Aside0.mk (show w.heap.size ≤ g by rw [hg]; exact Nat.le_refl _); have HB1 := Aside0.mk hb; have HX1 := Aside0.mk hbox; obtain ⟨hz0, hzf0, hz1, hzf1, hz2, hzf2, hz3, hzf3, hz4, hzf4⟩ := cells5 hbox; clear hbox hb hg))
 refine (of_20 _).mono ?_
 rintro e w2 ⟨T, Nf, K, rfl, hs, hb2⟩
 have hmk : mkB 20 = 0 := by simp [mkB]
 have hdc : dcB 20 = false := by simp [dcB]
 rw [hmk, hdc]
 obtain ⟨ft, fnt, hT, ht2⟩ := hs.t
 obtain ⟨fn, fnn, hN, hn2⟩ := hs.n
 obtain ⟨fk, fnk, ck, Sk, hK, hk2⟩ := hs.k
 have HSH := Aside0.mk hs
 clear hs ht2 hn2 hk2
 subst hT hN hK
 have HB2 := Aside0.mk (below_step HB1.out hb2)
 have HX2 := Aside0.mk (blk_below HX1.out hb2)
 clear hb2
 clear hz0 hzf0 hz1 hzf1 hz2 hzf2 hz3 hzf3 hz4 hzf4
 obtain ⟨hz0, hzf0, hz1, hzf1, hz2, hzf2, hz3, hzf3, hz4, hzf4⟩ := cells5 HX2.out
 go_wp2
 obtain ⟨wf, hwf, hF, HBf, HSf⟩ := putS (.func (.func ft) #[] #[]) (.func (.func fn) #[] #[]) (.func (.func fk) #[] ck) (.int .i64 0) (.bool false) HX2.out HB2.out HG.out HSH.out
 rw [hwf]
 obtain ⟨hcf0, _, hcf1, _, hcf2, _, hcf3, _, hcf4, _⟩ := cells5 hF
 refine bodyPost_ret (v := .tuple #[.agg #[.func (.func ft) #[] #[], .func (.func fn) #[] #[], .func (.func fk) #[] ck, .int .i64 0, .bool false], .bool true]) ?_ rfl ⟨_, _, _, by rw [hmk, hdc], HSf, HBf⟩
 simp [results, Tryz.results17, go_sem, hcf0, hcf1, hcf2, hcf3, hcf4]
set_option maxHeartbeats 8000000 in
set_option maxRecDepth 100000 in
theorem sh_21 (w : World) : Calls Tryz.prog 17 #[.int .i64 21] w (ShPost 21 w) := by
 go_enter Tryz.func17, Tryz.ntmps17
 go_wp2_with (first | ((with_reducible refine gate_dst (N := 2) rfl ?_); refine box_event ?hg (N := 2) ?hd (cs := #[.nilFunc, .nilFunc, .nilFunc, .int .i64 0, .bool false]) (t := 33) ?hr ?_; (case hd => rfl); (case hg => rfl); (case hr => first | (go_simp; done) | (go_simp; rfl)); intro g hg w1 hbox hb; have HG := Aside0.mk (show w.heap.size ≤ g by rw [hg]; exact Nat.le_refl _); have HB1 := Aside0.mk hb; have HX1 := Aside0.mk hbox; obtain ⟨hz0, hzf0, hz1, hzf1, hz2, hzf2, hz3, hzf3, hz4, hzf4⟩ := cells5 hbox; clear hbox hb hg))
 refine (of_21 _).mono ?_
 rintro e w2 ⟨T, Nf, K, rfl, hs, hb2⟩
 have hmk : mkB 21 = 0 := by simp [mkB]
 have hdc : dcB 21 = false := by simp [dcB]
 rw [hmk, hdc]
 obtain ⟨ft, fnt, hT, ht2⟩ := hs.t
 obtain ⟨fn, fnn, hN, hn2⟩ := hs.n
 obtain ⟨fk, fnk, ck, Sk, hK, hk2⟩ := hs.k
 have HSH := Aside0.mk hs
 clear hs ht2 hn2 hk2
 subst hT hN hK
 have HB2 := Aside0.mk (below_step HB1.out hb2)
 have HX2 := Aside0.mk (blk_below HX1.out hb2)
 clear hb2
 clear hz0 hzf0 hz1 hzf1 hz2 hzf2 hz3 hzf3 hz4 hzf4
 obtain ⟨hz0, hzf0, hz1, hzf1, hz2, hzf2, hz3, hzf3, hz4, hzf4⟩ := cells5 HX2.out
 go_wp2
 obtain ⟨wf, hwf, hF, HBf, HSf⟩ := putS (.func (.func ft) #[] #[]) (.func (.func fn) #[] #[]) (.func (.func fk) #[] ck) (.int .i64 0) (.bool false) HX2.out HB2.out HG.out HSH.out
 rw [hwf]
 obtain ⟨hcf0, _, hcf1, _, hcf2, _, hcf3, _, hcf4, _⟩ := cells5 hF
 refine bodyPost_ret (v := .tuple #[.agg #[.func (.func ft) #[] #[], .func (.func fn) #[] #[], .func (.func fk) #[] ck, .int .i64 0, .bool false], .bool true]) ?_ rfl ⟨_, _, _, by rw [hmk, hdc], HSf, HBf⟩
 simp [results, Tryz.results17, go_sem, hcf0, hcf1, hcf2, hcf3, hcf4]
set_option maxHeartbeats 8000000 in
set_option maxRecDepth 100000 in
theorem sh_22 (w : World) : Calls Tryz.prog 17 #[.int .i64 22] w (ShPost 22 w) := by
 go_enter Tryz.func17, Tryz.ntmps17
 go_wp2_with (first | ((with_reducible refine gate_dst (N := 2) rfl ?_); refine box_event ?hg (N := 2) ?hd (cs := #[.nilFunc, .nilFunc, .nilFunc, .int .i64 0, .bool false]) (t := 33) ?hr ?_; (case hd => rfl); (case hg => rfl); (case hr => first | (go_simp; done) | (go_simp; rfl)); intro g hg w1 hbox hb; have HG := Aside0.mk (show w.heap.size ≤ g by rw [hg]; exact Nat.le_refl _); have HB1 := Aside0.mk hb; have HX1 := Aside0.mk hbox; obtain ⟨hz0, hzf0, hz1, hzf1, hz2, hzf2, hz3, hzf3, hz4, hzf4⟩ := cells5 hbox; clear hbox hb hg))
 refine (of_22 _).mono ?_
 rintro e w2 ⟨T, Nf, K, rfl, hs, hb2⟩
 have hmk : mkB 22 = 0 := by simp [mkB]
 have hdc : dcB 22 = false := by simp [dcB]
 rw [hmk, hdc]
 obtain ⟨ft, fnt, hT, ht2⟩ := hs.t
 obtain ⟨fn, fnn, hN, hn2⟩ := hs.n
 obtain ⟨fk, fnk, ck, Sk, hK, hk2⟩ := hs.k
 have HSH := Aside0.mk hs
 clear hs ht2 hn2 hk2
 subst hT hN hK
 have HB2 := Aside0.mk (below_step HB1.out hb2)
 have HX2 := Aside0.mk (blk_below HX1.out hb2)
 clear hb2
 clear hz0 hzf0 hz1 hzf1 hz2 hzf2 hz3 hzf3 hz4 hzf4
 obtain ⟨hz0, hzf0, hz1, hzf1, hz2, hzf2, hz3, hzf3, hz4, hzf4⟩ := cells5 HX2.out
 go_wp2
 obtain ⟨wf, hwf, hF, HBf, HSf⟩ := putS (.func (.func ft) #[] #[]) (.func (.func fn) #[] #[]) (.func (.func fk) #[] ck) (.int .i64 0) (.bool false) HX2.out HB2.out HG.out HSH.out
 rw [hwf]
 obtain ⟨hcf0, _, hcf1, _, hcf2, _, hcf3, _, hcf4, _⟩ := cells5 hF
 refine bodyPost_ret (v := .tuple #[.agg #[.func (.func ft) #[] #[], .func (.func fn) #[] #[], .func (.func fk) #[] ck, .int .i64 0, .bool false], .bool true]) ?_ rfl ⟨_, _, _, by rw [hmk, hdc], HSf, HBf⟩
 simp [results, Tryz.results17, go_sem, hcf0, hcf1, hcf2, hcf3, hcf4]
set_option maxHeartbeats 8000000 in
set_option maxRecDepth 100000 in
theorem sh_23 (w : World) : Calls Tryz.prog 17 #[.int .i64 23] w (ShPost 23 w) := by
 go_enter Tryz.func17, Tryz.ntmps17
 go_wp2_with (first | ((with_reducible refine gate_dst (N := 2) rfl ?_); refine box_event ?hg (N := 2) ?hd (cs := #[.nilFunc, .nilFunc, .nilFunc, .int .i64 0, .bool false]) (t := 33) ?hr ?_; (case hd => rfl); (case hg => rfl); (case hr => first | (go_simp; done) | (go_simp; rfl)); intro g hg w1 hbox hb; have HG := Aside0.mk (show w.heap.size ≤ g by rw [hg]; exact Nat.le_refl _); have HB1 := Aside0.mk hb; have HX1 := Aside0.mk hbox; obtain ⟨hz0, hzf0, hz1, hzf1, hz2, hzf2, hz3, hzf3, hz4, hzf4⟩ := cells5 hbox; clear hbox hb hg))
 refine (of_23 _).mono ?_
 rintro e w2 ⟨T, Nf, K, rfl, hs, hb2⟩
 have hmk : mkB 23 = 0 := by simp [mkB]
 have hdc : dcB 23 = false := by simp [dcB]
 rw [hmk, hdc]
 obtain ⟨ft, fnt, hT, ht2⟩ := hs.t
 obtain ⟨fn, fnn, hN, hn2⟩ := hs.n
 obtain ⟨fk, fnk, ck, Sk, hK, hk2⟩ := hs.k
 have HSH := Aside0.mk hs
 clear hs ht2 hn2 hk2
 subst hT hN hK
 have HB2 := Aside0.mk (below_step HB1.out hb2)
 have HX2 := Aside0.mk (blk_below HX1.out hb2)
 clear hb2
 clear hz0 hzf0 hz1 hzf1 hz2 hzf2 hz3 hzf3 hz4 hzf4
 obtain ⟨hz0, hzf0, hz1, hzf1, hz2, hzf2, hz3, hzf3, hz4, hzf4⟩ := cells5 HX2.out
 go_wp2
 obtain ⟨wf, hwf, hF, HBf, HSf⟩ := putS (.func (.func ft) #[] #[]) (.func (.func fn) #[] #[]) (.func (.func fk) #[] ck) (.int .i64 0) (.bool false) HX2.out HB2.out HG.out HSH.out
 rw [hwf]
 obtain ⟨hcf0, _, hcf1, _, hcf2, _, hcf3, _, hcf4, _⟩ := cells5 hF
 refine bodyPost_ret (v := .tuple #[.agg #[.func (.func ft) #[] #[], .func (.func fn) #[] #[], .func (.func fk) #[] ck, .int .i64 0, .bool false], .bool true]) ?_ rfl ⟨_, _, _, by rw [hmk, hdc], HSf, HBf⟩
 simp [results, Tryz.results17, go_sem, hcf0, hcf1, hcf2, hcf3, hcf4]
set_option maxHeartbeats 8000000 in
set_option maxRecDepth 100000 in
theorem sh_24 (w : World) : Calls Tryz.prog 17 #[.int .i64 24] w (ShPost 24 w) := by
 go_enter Tryz.func17, Tryz.ntmps17
 go_wp2_with (first | ((with_reducible refine gate_dst (N := 2) rfl ?_); refine box_event ?hg (N := 2) ?hd (cs := #[.nilFunc, .nilFunc, .nilFunc, .int .i64 0, .bool false]) (t := 33) ?hr ?_; (case hd => rfl); (case hg => rfl); (case hr => first | (go_simp; done) | (go_simp; rfl)); intro g hg w1 hbox hb; have HG := Aside0.mk (show w.heap.size ≤ g by rw [hg]; exact Nat.le_refl _); have HB1 := Aside0.mk hb; have HX1 := Aside0.mk hbox; obtain ⟨hz0, hzf0, hz1, hzf1, hz2, hzf2, hz3, hzf3, hz4, hzf4⟩ := cells5 hbox; clear hbox hb hg))
 refine (of_24 _).mono ?_
 rintro e w2 ⟨T, Nf, K, rfl, hs, hb2⟩
 have hmk : mkB 24 = 1 := by simp [mkB]
 have hdc : dcB 24 = false := by simp [dcB]
 rw [hmk, hdc]
 obtain ⟨ft, fnt, hT, ht2⟩ := hs.t
 obtain ⟨fn, fnn, hN, hn2⟩ := hs.n
 obtain ⟨fk, fnk, ck, Sk, hK, hk2⟩ := hs.k
 have HSH := Aside0.mk hs
 clear hs ht2 hn2 hk2
 subst hT hN hK
 have HB2 := Aside0.mk (below_step HB1.out hb2)
 have HX2 := Aside0.mk (blk_below HX1.out hb2)
 clear hb2
 clear hz0 hzf0 hz1 hzf1 hz2 hzf2 hz3 hzf3 hz4 hzf4
 obtain ⟨hz0, hzf0, hz1, hzf1, hz2, hzf2, hz3, hzf3, hz4, hzf4⟩ := cells5 HX2.out
 go_wp2
 obtain ⟨wf, hwf, hF, HBf, HSf⟩ := putS (.func (.func ft) #[] #[]) (.func (.func fn) #[] #[]) (.func (.func fk) #[] ck) (.int .i64 1) (.bool false) HX2.out HB2.out HG.out HSH.out
 rw [hwf]
 obtain ⟨hcf0, _, hcf1, _, hcf2, _, hcf3, _, hcf4, _⟩ := cells5 hF
 refine bodyPost_ret (v := .tuple #[.agg #[.func (.func ft) #[] #[], .func (.func fn) #[] #[], .func (.func fk) #[] ck, .int .i64 1, .bool false], .bool true]) ?_ rfl ⟨_, _, _, by rw [hmk, hdc], HSf, HBf⟩
 simp [results, Tryz.results17, go_sem, hcf0, hcf1, hcf2, hcf3, hcf4]
end Go.Proofs.YtdkepckkihclgaaGreatDoor.PNodeChecks
namespace Go.Proofs.YtdkepckkihclgaaGreatDoor.PNodeChecks
open Go.RowKit Go.Proofs.YtdkepckkihclgaaGreatDoorW.PrintWords Go.Proofs.YtdkepckkihclgaaGreatDoorW.PrintLast Go.Proofs.YtdkepckkihclgaaGreatDoorW.PrintMore
set_option linter.unusedVariables false
set_option linter.unusedSimpArgs false
def NoPost (w : World) (e : Ending) (w' : World) : Prop := e = .returned (.tuple #[.agg #[.nilFunc, .nilFunc, .nilFunc, .int .i64 0, .bool false], .bool false]) ∧ Below w.heap.size w w'
theorem shaped_calls (kd : Int) (w : World) (h1 : 1 ≤ kd) (h2 : kd ≤ 24) : Calls Tryz.prog 17 #[.int .i64 kd] w (ShPost kd w) := by
 have h : kd = 1 ∨ kd = 2 ∨ kd = 3 ∨ kd = 4 ∨ kd = 5 ∨ kd = 6 ∨ kd = 7 ∨ kd = 8 ∨ kd = 9 ∨ kd = 10 ∨ kd = 11 ∨ kd = 12 ∨ kd = 13 ∨ kd = 14 ∨ kd = 15 ∨ kd = 16 ∨ kd = 17 ∨ kd = 18 ∨ kd = 19 ∨ kd = 20 ∨ kd = 21 ∨ kd = 22 ∨ kd = 23 ∨ kd = 24 := by omega
 rcases h with rfl | h
 ·exact sh_1 w
 rcases h with rfl | h
 ·exact sh_2 w
 rcases h with rfl | h
 ·exact sh_3 w
 rcases h with rfl | h
 ·exact sh_4 w
 rcases h with rfl | h
 ·exact sh_5 w
 rcases h with rfl | h
 ·exact sh_6 w
 rcases h with rfl | h
 ·exact sh_7 w
 rcases h with rfl | h
 ·exact sh_8 w
 rcases h with rfl | h
 ·exact sh_9 w
 rcases h with rfl | h
 ·exact sh_10 w
 rcases h with rfl | h
 ·exact sh_11 w
 rcases h with rfl | h
 ·exact sh_12 w
 rcases h with rfl | h
 ·exact sh_13 w
 rcases h with rfl | h
 ·exact sh_14 w
 rcases h with rfl | h
 ·exact sh_15 w
 rcases h with rfl | h
 ·exact sh_16 w
 rcases h with rfl | h
 ·exact sh_17 w
 rcases h with rfl | h
 ·exact sh_18 w
 rcases h with rfl | h
 ·exact sh_19 w
 rcases h with rfl | h
 ·exact sh_20 w
 rcases h with rfl | h
 ·exact sh_21 w
 rcases h with rfl | h
 ·exact sh_22 w
 rcases h with rfl | h
 ·exact sh_23 w
 subst h
 exact sh_24 w
set_option maxHeartbeats 8000000 in
set_option maxRecDepth 100000 in
theorem unshaped_calls (kd : Int) (w : World) (h : kd < 1 ∨ 24 < kd) : Calls Tryz.prog 17 #[.int .i64 kd] w (NoPost w) := by
 have n1 : (kd == 1) = false := by (rw [beq_eq_false_iff_ne]; omega)
 have d1 : decide (kd = 1) = false := decide_eq_false (by omega)
 have n2 : (kd == 2) = false := by (rw [beq_eq_false_iff_ne]; omega)
 have d2 : decide (kd = 2) = false := decide_eq_false (by omega)
 have n3 : (kd == 3) = false := by (rw [beq_eq_false_iff_ne]; omega)
 have d3 : decide (kd = 3) = false := decide_eq_false (by omega)
 have n4 : (kd == 4) = false := by (rw [beq_eq_false_iff_ne]; omega)
 have d4 : decide (kd = 4) = false := decide_eq_false (by omega)
 have n5 : (kd == 5) = false := by (rw [beq_eq_false_iff_ne]; omega)
 have d5 : decide (kd = 5) = false := decide_eq_false (by omega)
 have n6 : (kd == 6) = false := by (rw [beq_eq_false_iff_ne]; omega)
 have d6 : decide (kd = 6) = false := decide_eq_false (by omega)
 have n7 : (kd == 7) = false := by (rw [beq_eq_false_iff_ne]; omega)
 have d7 : decide (kd = 7) = false := decide_eq_false (by omega)
 have n8 : (kd == 8) = false := by (rw [beq_eq_false_iff_ne]; omega)
 have d8 : decide (kd = 8) = false := decide_eq_false (by omega)
 have n9 : (kd == 9) = false := by (rw [beq_eq_false_iff_ne]; omega)
 have d9 : decide (kd = 9) = false := decide_eq_false (by omega)
 have n10 : (kd == 10) = false := by (rw [beq_eq_false_iff_ne]; omega)
 have d10 : decide (kd = 10) = false := decide_eq_false (by omega)
 have n11 : (kd == 11) = false := by (rw [beq_eq_false_iff_ne]; omega)
 have d11 : decide (kd = 11) = false := decide_eq_false (by omega)
 have n12 : (kd == 12) = false := by (rw [beq_eq_false_iff_ne]; omega)
 have d12 : decide (kd = 12) = false := decide_eq_false (by omega)
 have n13 : (kd == 13) = false := by (rw [beq_eq_false_iff_ne]; omega)
 have d13 : decide (kd = 13) = false := decide_eq_false (by omega)
 have n14 : (kd == 14) = false := by (rw [beq_eq_false_iff_ne]; omega)
 have d14 : decide (kd = 14) = false := decide_eq_false (by omega)
 have n15 : (kd == 15) = false := by (rw [beq_eq_false_iff_ne]; omega)
 have d15 : decide (kd = 15) = false := decide_eq_false (by omega)
 have n16 : (kd == 16) = false := by (rw [beq_eq_false_iff_ne]; omega)
 have d16 : decide (kd = 16) = false := decide_eq_false (by omega)
 have n17 : (kd == 17) = false := by (rw [beq_eq_false_iff_ne]; omega)
 have d17 : decide (kd = 17) = false := decide_eq_false (by omega)
 have n18 : (kd == 18) = false := by (rw [beq_eq_false_iff_ne]; omega)
 have d18 : decide (kd = 18) = false := decide_eq_false (by omega)
 have n19 : (kd == 19) = false := by (rw [beq_eq_false_iff_ne]; omega)
 have d19 : decide (kd = 19) = false := decide_eq_false (by omega)
 have n20 : (kd == 20) = false := by (rw [beq_eq_false_iff_ne]; omega)
 have d20 : decide (kd = 20) = false := decide_eq_false (by omega)
 have n21 : (kd == 21) = false := by (rw [beq_eq_false_iff_ne]; omega)
 have d21 : decide (kd = 21) = false := decide_eq_false (by omega)
 have n22 : (kd == 22) = false := by (rw [beq_eq_false_iff_ne]; omega)
 have d22 : decide (kd = 22) = false := decide_eq_false (by omega)
 have n23 : (kd == 23) = false := by (rw [beq_eq_false_iff_ne]; omega)
 have d23 : decide (kd = 23) = false := decide_eq_false (by omega)
 have n24 : (kd == 24) = false := by (rw [beq_eq_false_iff_ne]; omega)
 have d24 : decide (kd = 24) = false := decide_eq_false (by omega)
 clear h
 go_enter Tryz.func17, Tryz.ntmps17
 go_wp2_with (first | ((with_reducible refine gate_dst (N := 2) rfl ?_); refine box_event ?hg (N := 2) ?hd (cs := #[.nilFunc, .nilFunc, .nilFunc, .int .i64 0, .bool false]) (t := 33) ?hr ?_; (case hd => rfl); (case hg => rfl); (case hr => first | (go_simp; done) | (go_simp; rfl)); intro g hg w1 hbox hb; have HG := Aside0.mk (show w.heap.size ≤ g by rw [hg]; exact Nat.le_refl _); have HB1 := Aside0.mk hb; have HX1 := Aside0.mk hbox; obtain ⟨hz0, hzf0, hz1, hzf1, hz2, hzf2, hz3, hzf3, hz4, hzf4⟩ := cells5 hbox; clear hbox hb hg))
 obtain ⟨wf, hwf⟩ : ∃ wf, (((((w1.setCell ⟨g, 0, none⟩ (.nilFunc)).setCell ⟨g, 1, none⟩ (.nilFunc)).setCell ⟨g, 2, none⟩ (.nilFunc)).setCell ⟨g, 3, none⟩ (.int .i64 0)).setCell ⟨g, 4, none⟩ (.bool false)) = wf := ⟨_, rfl⟩
 have hF : wf.heap[g]? = some (.cells #[.nilFunc, .nilFunc, .nilFunc, .int .i64 0, .bool false] 33 (0, 0)) := hwf ▸ (blk_put (blk_put (blk_put (blk_put (blk_put HX1.out 0 _ rfl) 1 _ rfl) 2 _ rfl) 3 _ rfl) 4 _ rfl)
 have HBf : Below w.heap.size w wf := hwf ▸ (below_set (below_set (below_set (below_set (below_set HB1.out HG.out (j := 0)) HG.out (j := 1)) HG.out (j := 2)) HG.out (j := 3)) HG.out (j := 4))
 rw [hwf]
 have hcf0 : wf.cell? ⟨g, 0, none⟩ = some (.nilFunc) := (blk_cell hF 0).trans rfl
 have hcf1 : wf.cell? ⟨g, 1, none⟩ = some (.nilFunc) := (blk_cell hF 1).trans rfl
 have hcf2 : wf.cell? ⟨g, 2, none⟩ = some (.nilFunc) := (blk_cell hF 2).trans rfl
 have hcf3 : wf.cell? ⟨g, 3, none⟩ = some (.int .i64 0) := (blk_cell hF 3).trans rfl
 have hcf4 : wf.cell? ⟨g, 4, none⟩ = some (.bool false) := (blk_cell hF 4).trans rfl
 refine bodyPost_ret (v := .tuple #[.agg #[.nilFunc, .nilFunc, .nilFunc, .int .i64 0, .bool false], .bool false]) ?_ rfl ⟨rfl, HBf⟩
 simp [results, Tryz.results17, go_sem, hcf0, hcf1, hcf2, hcf3, hcf4]
end Go.Proofs.YtdkepckkihclgaaGreatDoor.PNodeChecks

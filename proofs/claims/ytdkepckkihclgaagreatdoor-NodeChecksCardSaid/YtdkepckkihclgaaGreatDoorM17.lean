import Derived.Test.YtdkepckkihclgaaGreatDoorM16
namespace Go.Proofs.YtdkepckkihclgaaGreatDoor.PNodeChecks
open Go.RowKit Go.Proofs.YtdkepckkihclgaaGreatDoorW.PrintWords Go.Proofs.YtdkepckkihclgaaGreatDoorW.PrintLast Go.Proofs.YtdkepckkihclgaaGreatDoorW.PrintMore
set_option linter.unusedVariables false
set_option linter.unusedSimpArgs false
def worthK (k : Int) : Bool := decide (20 ≤ k) && decide (k ≤ 23)
set_option maxHeartbeats 8000000 in
set_option maxRecDepth 100000 in
theorem worth_node (x : S24) (A : Option Addr) (c : Nat) (w : World) :
    Calls Tryz.prog 38 #[.agg #[.int .i64 x.f0, .string x.f1, .int .i64 x.f2, .int .i64 x.f3, .int .i64 x.f4, .int .i64 x.f5, .string x.f6, .slice A x.f7.length c]] w fun e w' => e = .returned (.bool (worthK x.f0)) ∧ Below w.heap.size w w' := by
  by_cases h1 : 20 ≤ x.f0
  · have g1 := decide_eq_true h1
    have hw : Aside0 (worthK x.f0 = decide (x.f0 ≤ 23)) := ⟨by simp [worthK, h1]⟩
    go_enter Tryz.func38, Tryz.ntmps38
    go_wp2_with (first | ((with_reducible refine gate_dst (N := 1) rfl ?_); refine box_event ?hg (N := 1) ?hd (cs := #[.int .i64 x.f0, .string x.f1, .int .i64 x.f2, .int .i64 x.f3, .int .i64 x.f4, .int .i64 x.f5, .string x.f6, .slice A x.f7.length c]) (t := 24) ?hr ?_; (case hd => rfl); (case hg => rfl); (case hr => first | (go_simp; done) | (go_simp; rfl)); intro gx hg w1 hbox hb; have HB := Aside0.mk hb; have hq0 : w1.cell? ⟨gx, 0, none⟩ = some (.int .i64 x.f0) := (blk_cell hbox 0).trans rfl; have hq1 : w1.cell? ⟨gx, 1, none⟩ = some (.string x.f1) := (blk_cell hbox 1).trans rfl; have hq2 : w1.cell? ⟨gx, 2, none⟩ = some (.int .i64 x.f2) := (blk_cell hbox 2).trans rfl; have hq3 : w1.cell? ⟨gx, 3, none⟩ = some (.int .i64 x.f3) := (blk_cell hbox 3).trans rfl; have hq4 : w1.cell? ⟨gx, 4, none⟩ = some (.int .i64 x.f4) := (blk_cell hbox 4).trans rfl; have hq5 : w1.cell? ⟨gx, 5, none⟩ = some (.int .i64 x.f5) := (blk_cell hbox 5).trans rfl; have hq6 : w1.cell? ⟨gx, 6, none⟩ = some (.string x.f6) := (blk_cell hbox 6).trans rfl; have hq7 : w1.cell? ⟨gx, 7, none⟩ = some (.slice A x.f7.length c) := (blk_cell hbox 7).trans rfl; clear hg hb hbox))
    go_ret
    exact ⟨by rw [hw.out]; rfl, HB.out⟩
  · have g1 := decide_eq_false h1
    have hw : Aside0 (worthK x.f0 = false) := ⟨by simp [worthK]; omega⟩
    go_enter Tryz.func38, Tryz.ntmps38
    go_wp2_with (first | ((with_reducible refine gate_dst (N := 1) rfl ?_); refine box_event ?hg (N := 1) ?hd (cs := #[.int .i64 x.f0, .string x.f1, .int .i64 x.f2, .int .i64 x.f3, .int .i64 x.f4, .int .i64 x.f5, .string x.f6, .slice A x.f7.length c]) (t := 24) ?hr ?_; (case hd => rfl); (case hg => rfl); (case hr => first | (go_simp; done) | (go_simp; rfl)); intro gx hg w1 hbox hb; have HB := Aside0.mk hb; have hq0 : w1.cell? ⟨gx, 0, none⟩ = some (.int .i64 x.f0) := (blk_cell hbox 0).trans rfl; have hq1 : w1.cell? ⟨gx, 1, none⟩ = some (.string x.f1) := (blk_cell hbox 1).trans rfl; have hq2 : w1.cell? ⟨gx, 2, none⟩ = some (.int .i64 x.f2) := (blk_cell hbox 2).trans rfl; have hq3 : w1.cell? ⟨gx, 3, none⟩ = some (.int .i64 x.f3) := (blk_cell hbox 3).trans rfl; have hq4 : w1.cell? ⟨gx, 4, none⟩ = some (.int .i64 x.f4) := (blk_cell hbox 4).trans rfl; have hq5 : w1.cell? ⟨gx, 5, none⟩ = some (.int .i64 x.f5) := (blk_cell hbox 5).trans rfl; have hq6 : w1.cell? ⟨gx, 6, none⟩ = some (.string x.f6) := (blk_cell hbox 6).trans rfl; have hq7 : w1.cell? ⟨gx, 7, none⟩ = some (.slice A x.f7.length c) := (blk_cell hbox 7).trans rfl; clear hg hb hbox))
    go_ret
    exact ⟨by rw [hw.out]; rfl, HB.out⟩
def optIn (l : List S24) : Bool := decide (2 ≤ l.length) && (allIn [19] (l.take (l.length - 1)) && worthK (rd_T24 l (l.length - 1)).f0)
set_option maxHeartbeats 8000000 in
set_option maxRecDepth 100000 in
theorem opt_calls (l : List S24) (A : Option Addr) (c : Nat) (w : World) (hr : Kd.C k24 w A l.length l) (hc : l.length ≤ c) :
    Calls Tryz.prog 36 #[.slice A l.length c] w fun e w' => e = .returned (.bool (optIn l)) ∧ Below w.heap.size w w' := by
  have HR := Aside0.mk hr
  have HC := Aside0.mk hc
  have HM := Aside0.mk hr.2.1
  clear hr hc
  obtain ⟨la, hla⟩ : ∃ la : Int, (l.length : Int) - 1 = la := ⟨_, rfl⟩
  have HL : Aside0 (la = (l.length : Int) - 1) := ⟨hla.symm⟩
  have hbd : (l.length : Int) ≤ 9223372036854775807 := by have := HM.out; omega
  have hwr : wrap64 ((l.length : Int) - 1) = la := by rw [hla]; unfold wrap64; omega
  clear hla
  by_cases h1 : 1 ≤ la
  · have g1 : decide (1 ≤ la) = true := decide_eq_true h1
    have hl2 : 2 ≤ l.length := by have := HL.out; omega
    have i0 : 0 ≤ la := by omega
    have i1 : la < (l.length : Int) := by have := HL.out; omega
    have i2 : la ≤ (c : Int) := by have := HL.out; have := HC.out; omega
    obtain ⟨ad, A7, c7, e, hx0, hx1, hx2, hx3, hx4, hx5, hx6, hx7, hl7, hi7⟩ := at_T24 HR.out la i0 i1
    cases e
    have hla2 : (l.length : Int) - 1 = la := HL.out.symm
    obtain ⟨x, hx⟩ : ∃ x, rd_T24 l la = x := ⟨_, rfl⟩
    obtain ⟨ad2, had2⟩ : ∃ ad2, ad.add (la.toNat * 8) = ad2 := ⟨_, rfl⟩
    rw [hx] at hx0 hx1 hx2 hx3 hx4 hx5 hx6 hx7
    rw [had2] at hx0 hx1 hx2 hx3 hx4 hx5 hx6 hx7
    have HX := Aside0.mk hx
    clear hl7 hi7 hx
    cases hk : allIn [19] (l.take la.toNat)
    · have HK := Aside0.mk hk
      have hF : Aside0 (optIn l = false) := ⟨by have h3 : l.length - 1 = la.toNat := by (have := HL.out; omega)
                                                unfold optIn; rw [h3, hk]; simp⟩
      clear hk
      go_enter Tryz.func36, Tryz.ntmps36
      go_wp2
      refine start_ (n := 18) (S := fun w' => w'.cell? ad2 = some (.int .i64 x.f0) ∧ w'.cell? ⟨ad2.block, ad2.off + 1, none⟩ = some (.string x.f1) ∧ w'.cell? ⟨ad2.block, ad2.off + 2, none⟩ = some (.int .i64 x.f2) ∧ w'.cell? ⟨ad2.block, ad2.off + 3, none⟩ = some (.int .i64 x.f3) ∧ w'.cell? ⟨ad2.block, ad2.off + 4, none⟩ = some (.int .i64 x.f4) ∧ w'.cell? ⟨ad2.block, ad2.off + 5, none⟩ = some (.int .i64 x.f5) ∧ w'.cell? ⟨ad2.block, ad2.off + 6, none⟩ = some (.string x.f6) ∧ w'.cell? ⟨ad2.block, ad2.off + 7, none⟩ = some (.slice A7 x.f7.length c7)) (ds := []) #[false, false, false, false, false, false, false, false, false, false, false, false, false, false, false, false, false, false] (by kernel_rfl) rfl rfl ⟨hx0, hx1, hx2, hx3, hx4, hx5, hx6, hx7⟩ (fun hHeld => ?_)
      refine pure_ (i := 0) (N := some 7) (v := ?_) (a' := ?_) #[true, false, false, false, false, false, false, false, false, false, false, false, false, false, false, false, false, false] rfl rfl (by kernel_rfl) (fun _ _ _ h => h) (Or.inl ⟨by rfl, ?_⟩) ?_ ?_
      rotate_left
      · intro w'
        go_simp
        with_reducible rfl
      rotate_left
      · simp only [Act.put, List.setIfInBounds_toArray, List.set_cons_zero, List.set_cons_succ, i64_w, i32_w]
        rfl
      refine pure_ (i := 1) (N := some 8) (v := ?_) (a' := ?_) #[true, true, false, false, false, false, false, false, false, false, false, false, false, false, false, false, false, false] rfl rfl (by kernel_rfl) (fun _ _ _ h => h) (Or.inl ⟨by rfl, ?_⟩) ?_ ?_
      rotate_left
      · intro w'
        go_simp
        with_reducible rfl
      rotate_left
      · simp only [Act.put, List.setIfInBounds_toArray, List.set_cons_zero, List.set_cons_succ, i64_w, i32_w]
        rfl
      refine pure_ (i := 2) (N := some 9) (v := ?_) (a' := ?_) #[true, true, true, false, false, false, false, false, false, false, false, false, false, false, false, false, false, false] rfl rfl (by kernel_rfl) (fun _ _ _ h => h) (Or.inl ⟨by rfl, ?_⟩) ?_ ?_
      rotate_left
      · intro w'
        go_simp
        with_reducible rfl
      rotate_left
      · simp only [Act.put, List.setIfInBounds_toArray, List.set_cons_zero, List.set_cons_succ, i64_w, i32_w]
        rfl
      refine pure_ (i := 5) (N := some 12) (v := ?_) (a' := ?_) #[true, true, true, false, false, true, false, false, false, false, false, false, false, false, false, false, false, false] rfl rfl (by kernel_rfl) (fun _ _ _ h => h) (Or.inl ⟨by rfl, ?_⟩) ?_ ?_
      rotate_left
      · intro w'
        go_simp
        with_reducible rfl
      rotate_left
      · simp only [Act.put, List.setIfInBounds_toArray, List.set_cons_zero, List.set_cons_succ, i64_w, i32_w]
        rfl
      refine pure_ (i := 6) (N := some 13) (v := ?_) (a' := ?_) #[true, true, true, false, false, true, true, false, false, false, false, false, false, false, false, false, false, false] rfl rfl (by kernel_rfl) (fun _ _ _ h => h) (Or.inl ⟨by rfl, ?_⟩) ?_ ?_
      rotate_left
      · intro w'
        go_simp
        with_reducible rfl
      rotate_left
      · simp only [Act.put, List.setIfInBounds_toArray, List.set_cons_zero, List.set_cons_succ, i64_w, i32_w]
        rfl
      refine pure_ (i := 7) (N := some 14) (v := ?_) (a' := ?_) #[true, true, true, false, false, true, true, true, false, false, false, false, false, false, false, false, false, false] rfl rfl (by kernel_rfl) (fun _ _ _ h => h) (Or.inl ⟨by rfl, ?_⟩) ?_ ?_
      rotate_left
      · intro w'
        go_simp
        with_reducible rfl
      rotate_left
      · simp only [Act.put, List.setIfInBounds_toArray, List.set_cons_zero, List.set_cons_succ, i64_w, i32_w]
        rfl
      refine one_ (i := 3) (N := some 10) #[true, true, true, true, false, true, true, true, false, false, false, false, false, false, false, false, false, false] rfl rfl (by kernel_rfl) (by decide) (fun K hK => ?_)
      refine value_ (w1 := ?_) (v := ?_) (by rfl) rfl ?_ ?_
      rotate_left 2
      · go_simp
        constructor
        · rfl
        · rfl
      refine hK.out _ _ ⟨pw_cell_below (below_drew (below_alloc (Below.refl _ w) _)) hx0, pw_cell_below (below_drew (below_alloc (Below.refl _ w) _)) hx1, pw_cell_below (below_drew (below_alloc (Below.refl _ w) _)) hx2, pw_cell_below (below_drew (below_alloc (Below.refl _ w) _)) hx3, pw_cell_below (below_drew (below_alloc (Below.refl _ w) _)) hx4, pw_cell_below (below_drew (below_alloc (Below.refl _ w) _)) hx5, pw_cell_below (below_drew (below_alloc (Below.refl _ w) _)) hx6, pw_cell_below (below_drew (below_alloc (Below.refl _ w) _)) hx7⟩ (fun hHeld => ?_)
      clear hK K
      refine norm_ (a' := ?_) ?_ ?_
      rotate_left
      · show Act.put _ (some 10) _ = _
        simp only [Act.put, List.setIfInBounds_toArray, List.set_cons_zero, List.set_cons_succ, i64_w, i32_w]
        rfl
      refine one_ (i := 4) (N := some 11) #[true, true, true, true, true, true, true, true, false, false, false, false, false, false, false, false, false, false] rfl rfl (by kernel_rfl) (by decide) (fun K hK => ?_)
      refine goes_ Tryz.func37 (by kernel_rfl) rfl #[.slice (some ⟨w.heap.size, 0, none⟩) 1 1] (by rfl) rfl rfl (by simp only [List.map_toArray, List.map_cons, List.map_nil]; rfl) ?_
      with_reducible refine (anyOf_one w.heap.size 19 _ ((ints_one w 19).below (below_drew (Below.refl _ _)))).mono ?_
      rintro e w4 ⟨b1, rfl, hat, hbb⟩
      refine ⟨_, rfl, ?_⟩
      have HA1 := Aside0.mk hat
      have HB4 := Aside0.mk (below_step (below_drew (below_alloc (Below.refl _ w) (.cells #[.int .i64 19] 3))) hbb)
      clear hat hbb
      refine hK.out _ _ ⟨pw_cell_below (HB4.out) hx0, pw_cell_below (HB4.out) hx1, pw_cell_below (HB4.out) hx2, pw_cell_below (HB4.out) hx3, pw_cell_below (HB4.out) hx4, pw_cell_below (HB4.out) hx5, pw_cell_below (HB4.out) hx6, pw_cell_below (HB4.out) hx7⟩ (fun hHeld => ?_)
      clear hK K
      refine norm_ (a' := ?_) ?_ ?_
      rotate_left
      · show Act.put _ (some 11) _ = _
        simp only [Act.put, List.setIfInBounds_toArray, List.set_cons_zero, List.set_cons_succ, i64_w, i32_w]
        rfl
      refine one_ (i := 8) (N := some 15) #[true, true, true, true, true, true, true, true, true, false, false, false, false, false, false, false, false, false] rfl rfl (by kernel_rfl) (by decide) (fun K hK => ?_)
      refine goesV_ Tryz.func70 (by kernel_rfl) rfl #[.slice (some ad) la.toNat c] (cap := #[.pointer (some ⟨b1, 0, none⟩)]) (by rfl) rfl rfl (by rfl) (by simp only [List.map_toArray, List.map_cons, List.map_nil]; rfl) (all := #[.slice (some ad) la.toNat c, .pointer (some ⟨b1, 0, none⟩)]) rfl ?_
      with_reducible refine (any1_at (l.take la.toNat) la.toNat (by rw [List.length_take]; have := HL.out; omega) (some ad) c b1 w.heap.size [19] _ (Kd.C_take (Kd.C_below HR.out HB4.out) (by have := HL.out; omega)) (by rw [List.length_take]; have := HC.out; omega) HA1.out).mono ?_
      rintro e w5 ⟨rfl, hbb⟩
      refine ⟨_, rfl, ?_⟩
      rw [HK.out]
      have HB5 := Aside0.mk (below_step HB4.out hbb)
      clear hbb
      refine hK.out _ _ ⟨pw_cell_below (HB5.out) hx0, pw_cell_below (HB5.out) hx1, pw_cell_below (HB5.out) hx2, pw_cell_below (HB5.out) hx3, pw_cell_below (HB5.out) hx4, pw_cell_below (HB5.out) hx5, pw_cell_below (HB5.out) hx6, pw_cell_below (HB5.out) hx7⟩ (fun hHeld => ?_)
      clear hK K
      refine norm_ (a' := ?_) ?_ ?_
      rotate_left
      · show Act.put _ (some 15) _ = _
        simp only [Act.put, List.setIfInBounds_toArray, List.set_cons_zero, List.set_cons_succ, i64_w, i32_w]
        rfl
      refine pure_ (i := 9) (N := some 16) (v := ?_) (a' := ?_) #[true, true, true, true, true, true, true, true, true, true, false, false, false, false, false, false, false, false] rfl rfl (by kernel_rfl) (fun _ _ _ h => h) (Or.inl ⟨by rfl, ?_⟩) ?_ ?_
      rotate_left
      · intro w'
        go_simp
        with_reducible rfl
      rotate_left
      · simp only [Act.put, List.setIfInBounds_toArray, List.set_cons_zero, List.set_cons_succ, i64_w, i32_w]
        rfl
      refine pure_ (i := 10) (N := some 17) (v := ?_) (a' := ?_) #[true, true, true, true, true, true, true, true, true, true, true, false, false, false, false, false, false, false] rfl rfl (by kernel_rfl) (fun _ _ _ h => h) (Or.inl ⟨by rfl, ?_⟩) ?_ ?_
      rotate_left
      · intro w'
        go_simp
        with_reducible rfl
      rotate_left
      · simp only [Act.put, List.setIfInBounds_toArray, List.set_cons_zero, List.set_cons_succ, i64_w, i32_w]
        rfl
      refine pure_ (i := 11) (N := some 18) (v := undef) (a' := ?_) #[true, true, true, true, true, true, true, true, true, true, true, true, false, false, false, false, false, false] rfl rfl (by kernel_rfl) (fun _ _ _ h => h) (Or.inr ⟨by rfl, rfl⟩) ?_ ?_
      rotate_left
      · simp only [Act.put, List.setIfInBounds_toArray, List.set_cons_zero, List.set_cons_succ, i64_w, i32_w]
        rfl
      refine pure_ (i := 12) (N := some 19) (v := undef) (a' := ?_) #[true, true, true, true, true, true, true, true, true, true, true, true, true, false, false, false, false, false] rfl rfl (by kernel_rfl) (fun _ _ _ h => h) (Or.inr ⟨by rfl, rfl⟩) ?_ ?_
      rotate_left
      · simp only [Act.put, List.setIfInBounds_toArray, List.set_cons_zero, List.set_cons_succ, i64_w, i32_w]
        rfl
      refine pure_ (i := 13) (N := some 20) (v := undef) (a' := ?_) #[true, true, true, true, true, true, true, true, true, true, true, true, true, true, false, false, false, false] rfl rfl (by kernel_rfl) (fun _ _ _ h => h) (Or.inr ⟨by rfl, rfl⟩) ?_ ?_
      rotate_left
      · simp only [Act.put, List.setIfInBounds_toArray, List.set_cons_zero, List.set_cons_succ, i64_w, i32_w]
        rfl
      refine pure_ (i := 14) (N := some 21) (v := undef) (a' := ?_) #[true, true, true, true, true, true, true, true, true, true, true, true, true, true, true, false, false, false] rfl rfl (by kernel_rfl) (fun _ _ _ h => h) (Or.inr ⟨by rfl, rfl⟩) ?_ ?_
      rotate_left
      · simp only [Act.put, List.setIfInBounds_toArray, List.set_cons_zero, List.set_cons_succ, i64_w, i32_w]
        rfl
      refine pure_ (i := 15) (N := some 22) (v := undef) (a' := ?_) #[true, true, true, true, true, true, true, true, true, true, true, true, true, true, true, true, false, false] rfl rfl (by kernel_rfl) (fun _ _ _ h => h) (Or.inr ⟨by rfl, rfl⟩) ?_ ?_
      rotate_left
      · simp only [Act.put, List.setIfInBounds_toArray, List.set_cons_zero, List.set_cons_succ, i64_w, i32_w]
        rfl
      refine pure_ (i := 16) (N := some 23) (v := ?_) (a' := ?_) #[true, true, true, true, true, true, true, true, true, true, true, true, true, true, true, true, true, false] rfl rfl (by kernel_rfl) (fun _ _ _ h => h) (Or.inl ⟨by rfl, ?_⟩) ?_ ?_
      rotate_left
      · intro w'
        go_simp
        with_reducible rfl
      rotate_left
      · simp only [Act.put, List.setIfInBounds_toArray, List.set_cons_zero, List.set_cons_succ, i64_w, i32_w]
        rfl
      refine pure_ (i := 17) (N := some 2) (v := ?_) (a' := ?_) #[true, true, true, true, true, true, true, true, true, true, true, true, true, true, true, true, true, true] rfl rfl (by kernel_rfl) (fun _ _ _ h => h) (Or.inl ⟨by rfl, ?_⟩) ?_ ?_
      rotate_left
      · intro w'
        go_simp
        with_reducible rfl
      rotate_left
      · simp only [Act.put, List.setIfInBounds_toArray, List.set_cons_zero, List.set_cons_succ, i64_w, i32_w]
        rfl
      refine done_ (by kernel_rfl) ?_
      go_wp2
      go_ret
      exact ⟨by rw [hF.out]; rfl, HB5.out⟩
    · have HK := Aside0.mk hk
      have hF : Aside0 (optIn l = worthK x.f0) := ⟨by have h3 : l.length - 1 = la.toNat := by (have := HL.out; omega)
                                                      unfold optIn; rw [h3, hk, HL.out.symm, HX.out]; simp; omega⟩
      clear hk
      go_enter Tryz.func36, Tryz.ntmps36
      go_wp2
      refine start_ (n := 18) (S := fun w' => w'.cell? ad2 = some (.int .i64 x.f0) ∧ w'.cell? ⟨ad2.block, ad2.off + 1, none⟩ = some (.string x.f1) ∧ w'.cell? ⟨ad2.block, ad2.off + 2, none⟩ = some (.int .i64 x.f2) ∧ w'.cell? ⟨ad2.block, ad2.off + 3, none⟩ = some (.int .i64 x.f3) ∧ w'.cell? ⟨ad2.block, ad2.off + 4, none⟩ = some (.int .i64 x.f4) ∧ w'.cell? ⟨ad2.block, ad2.off + 5, none⟩ = some (.int .i64 x.f5) ∧ w'.cell? ⟨ad2.block, ad2.off + 6, none⟩ = some (.string x.f6) ∧ w'.cell? ⟨ad2.block, ad2.off + 7, none⟩ = some (.slice A7 x.f7.length c7)) (ds := []) #[false, false, false, false, false, false, false, false, false, false, false, false, false, false, false, false, false, false] (by kernel_rfl) rfl rfl ⟨hx0, hx1, hx2, hx3, hx4, hx5, hx6, hx7⟩ (fun hHeld => ?_)
      refine pure_ (i := 0) (N := some 7) (v := ?_) (a' := ?_) #[true, false, false, false, false, false, false, false, false, false, false, false, false, false, false, false, false, false] rfl rfl (by kernel_rfl) (fun _ _ _ h => h) (Or.inl ⟨by rfl, ?_⟩) ?_ ?_
      rotate_left
      · intro w'
        go_simp
        with_reducible rfl
      rotate_left
      · simp only [Act.put, List.setIfInBounds_toArray, List.set_cons_zero, List.set_cons_succ, i64_w, i32_w]
        rfl
      refine pure_ (i := 1) (N := some 8) (v := ?_) (a' := ?_) #[true, true, false, false, false, false, false, false, false, false, false, false, false, false, false, false, false, false] rfl rfl (by kernel_rfl) (fun _ _ _ h => h) (Or.inl ⟨by rfl, ?_⟩) ?_ ?_
      rotate_left
      · intro w'
        go_simp
        with_reducible rfl
      rotate_left
      · simp only [Act.put, List.setIfInBounds_toArray, List.set_cons_zero, List.set_cons_succ, i64_w, i32_w]
        rfl
      refine pure_ (i := 2) (N := some 9) (v := ?_) (a' := ?_) #[true, true, true, false, false, false, false, false, false, false, false, false, false, false, false, false, false, false] rfl rfl (by kernel_rfl) (fun _ _ _ h => h) (Or.inl ⟨by rfl, ?_⟩) ?_ ?_
      rotate_left
      · intro w'
        go_simp
        with_reducible rfl
      rotate_left
      · simp only [Act.put, List.setIfInBounds_toArray, List.set_cons_zero, List.set_cons_succ, i64_w, i32_w]
        rfl
      refine pure_ (i := 5) (N := some 12) (v := ?_) (a' := ?_) #[true, true, true, false, false, true, false, false, false, false, false, false, false, false, false, false, false, false] rfl rfl (by kernel_rfl) (fun _ _ _ h => h) (Or.inl ⟨by rfl, ?_⟩) ?_ ?_
      rotate_left
      · intro w'
        go_simp
        with_reducible rfl
      rotate_left
      · simp only [Act.put, List.setIfInBounds_toArray, List.set_cons_zero, List.set_cons_succ, i64_w, i32_w]
        rfl
      refine pure_ (i := 6) (N := some 13) (v := ?_) (a' := ?_) #[true, true, true, false, false, true, true, false, false, false, false, false, false, false, false, false, false, false] rfl rfl (by kernel_rfl) (fun _ _ _ h => h) (Or.inl ⟨by rfl, ?_⟩) ?_ ?_
      rotate_left
      · intro w'
        go_simp
        with_reducible rfl
      rotate_left
      · simp only [Act.put, List.setIfInBounds_toArray, List.set_cons_zero, List.set_cons_succ, i64_w, i32_w]
        rfl
      refine pure_ (i := 7) (N := some 14) (v := ?_) (a' := ?_) #[true, true, true, false, false, true, true, true, false, false, false, false, false, false, false, false, false, false] rfl rfl (by kernel_rfl) (fun _ _ _ h => h) (Or.inl ⟨by rfl, ?_⟩) ?_ ?_
      rotate_left
      · intro w'
        go_simp
        with_reducible rfl
      rotate_left
      · simp only [Act.put, List.setIfInBounds_toArray, List.set_cons_zero, List.set_cons_succ, i64_w, i32_w]
        rfl
      refine one_ (i := 3) (N := some 10) #[true, true, true, true, false, true, true, true, false, false, false, false, false, false, false, false, false, false] rfl rfl (by kernel_rfl) (by decide) (fun K hK => ?_)
      refine value_ (w1 := ?_) (v := ?_) (by rfl) rfl ?_ ?_
      rotate_left 2
      · go_simp
        constructor
        · rfl
        · rfl
      refine hK.out _ _ ⟨pw_cell_below (below_drew (below_alloc (Below.refl _ w) _)) hx0, pw_cell_below (below_drew (below_alloc (Below.refl _ w) _)) hx1, pw_cell_below (below_drew (below_alloc (Below.refl _ w) _)) hx2, pw_cell_below (below_drew (below_alloc (Below.refl _ w) _)) hx3, pw_cell_below (below_drew (below_alloc (Below.refl _ w) _)) hx4, pw_cell_below (below_drew (below_alloc (Below.refl _ w) _)) hx5, pw_cell_below (below_drew (below_alloc (Below.refl _ w) _)) hx6, pw_cell_below (below_drew (below_alloc (Below.refl _ w) _)) hx7⟩ (fun hHeld => ?_)
      clear hK K
      refine norm_ (a' := ?_) ?_ ?_
      rotate_left
      · show Act.put _ (some 10) _ = _
        simp only [Act.put, List.setIfInBounds_toArray, List.set_cons_zero, List.set_cons_succ, i64_w, i32_w]
        rfl
      refine one_ (i := 4) (N := some 11) #[true, true, true, true, true, true, true, true, false, false, false, false, false, false, false, false, false, false] rfl rfl (by kernel_rfl) (by decide) (fun K hK => ?_)
      refine goes_ Tryz.func37 (by kernel_rfl) rfl #[.slice (some ⟨w.heap.size, 0, none⟩) 1 1] (by rfl) rfl rfl (by simp only [List.map_toArray, List.map_cons, List.map_nil]; rfl) ?_
      with_reducible refine (anyOf_one w.heap.size 19 _ ((ints_one w 19).below (below_drew (Below.refl _ _)))).mono ?_
      rintro e w4 ⟨b1, rfl, hat, hbb⟩
      refine ⟨_, rfl, ?_⟩
      have HA1 := Aside0.mk hat
      have HB4 := Aside0.mk (below_step (below_drew (below_alloc (Below.refl _ w) (.cells #[.int .i64 19] 3))) hbb)
      clear hat hbb
      refine hK.out _ _ ⟨pw_cell_below (HB4.out) hx0, pw_cell_below (HB4.out) hx1, pw_cell_below (HB4.out) hx2, pw_cell_below (HB4.out) hx3, pw_cell_below (HB4.out) hx4, pw_cell_below (HB4.out) hx5, pw_cell_below (HB4.out) hx6, pw_cell_below (HB4.out) hx7⟩ (fun hHeld => ?_)
      clear hK K
      refine norm_ (a' := ?_) ?_ ?_
      rotate_left
      · show Act.put _ (some 11) _ = _
        simp only [Act.put, List.setIfInBounds_toArray, List.set_cons_zero, List.set_cons_succ, i64_w, i32_w]
        rfl
      refine one_ (i := 8) (N := some 15) #[true, true, true, true, true, true, true, true, true, false, false, false, false, false, false, false, false, false] rfl rfl (by kernel_rfl) (by decide) (fun K hK => ?_)
      refine goesV_ Tryz.func70 (by kernel_rfl) rfl #[.slice (some ad) la.toNat c] (cap := #[.pointer (some ⟨b1, 0, none⟩)]) (by rfl) rfl rfl (by rfl) (by simp only [List.map_toArray, List.map_cons, List.map_nil]; rfl) (all := #[.slice (some ad) la.toNat c, .pointer (some ⟨b1, 0, none⟩)]) rfl ?_
      with_reducible refine (any1_at (l.take la.toNat) la.toNat (by rw [List.length_take]; have := HL.out; omega) (some ad) c b1 w.heap.size [19] _ (Kd.C_take (Kd.C_below HR.out HB4.out) (by have := HL.out; omega)) (by rw [List.length_take]; have := HC.out; omega) HA1.out).mono ?_
      rintro e w5 ⟨rfl, hbb⟩
      refine ⟨_, rfl, ?_⟩
      rw [HK.out]
      have HB5 := Aside0.mk (below_step HB4.out hbb)
      clear hbb
      refine hK.out _ _ ⟨pw_cell_below (HB5.out) hx0, pw_cell_below (HB5.out) hx1, pw_cell_below (HB5.out) hx2, pw_cell_below (HB5.out) hx3, pw_cell_below (HB5.out) hx4, pw_cell_below (HB5.out) hx5, pw_cell_below (HB5.out) hx6, pw_cell_below (HB5.out) hx7⟩ (fun hHeld => ?_)
      clear hK K
      refine norm_ (a' := ?_) ?_ ?_
      rotate_left
      · show Act.put _ (some 15) _ = _
        simp only [Act.put, List.setIfInBounds_toArray, List.set_cons_zero, List.set_cons_succ, i64_w, i32_w]
        rfl
      refine pure_ (i := 9) (N := some 16) (v := ?_) (a' := ?_) #[true, true, true, true, true, true, true, true, true, true, false, false, false, false, false, false, false, false] rfl rfl (by kernel_rfl) (fun _ _ _ h => h) (Or.inl ⟨by rfl, ?_⟩) ?_ ?_
      rotate_left
      · intro w'
        go_simp
        with_reducible rfl
      rotate_left
      · simp only [Act.put, List.setIfInBounds_toArray, List.set_cons_zero, List.set_cons_succ, i64_w, i32_w]
        rfl
      refine pure_ (i := 10) (N := some 17) (v := ?_) (a' := ?_) #[true, true, true, true, true, true, true, true, true, true, true, false, false, false, false, false, false, false] rfl rfl (by kernel_rfl) (fun _ _ _ h => h) (Or.inl ⟨by rfl, ?_⟩) ?_ ?_
      rotate_left
      · intro w'
        go_simp
        with_reducible rfl
      rotate_left
      · simp only [Act.put, List.setIfInBounds_toArray, List.set_cons_zero, List.set_cons_succ, i64_w, i32_w]
        rfl
      refine pure_ (i := 11) (N := some 18) (v := ?_) (a' := ?_) #[true, true, true, true, true, true, true, true, true, true, true, true, false, false, false, false, false, false] rfl rfl (by kernel_rfl) (fun _ _ _ h => h) (Or.inl ⟨by rfl, ?_⟩) ?_ ?_
      rotate_left
      · intro w'
        go_simp
        with_reducible rfl
      rotate_left
      · simp only [Act.put, List.setIfInBounds_toArray, List.set_cons_zero, List.set_cons_succ, i64_w, i32_w]
        rfl
      refine pure_ (i := 12) (N := some 19) (v := ?_) (a' := ?_) #[true, true, true, true, true, true, true, true, true, true, true, true, true, false, false, false, false, false] rfl rfl (by kernel_rfl) (fun _ _ _ h => h) (Or.inl ⟨by rfl, ?_⟩) ?_ ?_
      rotate_left
      · intro w'
        go_simp
        with_reducible rfl
      rotate_left
      · simp only [Act.put, List.setIfInBounds_toArray, List.set_cons_zero, List.set_cons_succ, i64_w, i32_w]
        rfl
      refine pure_ (i := 13) (N := some 20) (v := ?_) (a' := ?_) #[true, true, true, true, true, true, true, true, true, true, true, true, true, true, false, false, false, false] rfl rfl (by kernel_rfl) (fun _ _ _ h => h) (Or.inl ⟨by rfl, ?_⟩) ?_ ?_
      rotate_left
      · intro w'
        go_simp
        with_reducible rfl
      rotate_left
      · simp only [Act.put, List.setIfInBounds_toArray, List.set_cons_zero, List.set_cons_succ, i64_w, i32_w]
        rfl
      refine take_ (i := 14) (N := some 21) (v := ?_) (a' := ?_) #[true, true, true, true, true, true, true, true, true, true, true, true, true, true, true, false, false, false] rfl rfl (by kernel_rfl) (fun _ _ _ h => h) (Or.inl ⟨by rfl, ?_⟩) hHeld ?_ ?_
      rotate_left
      · rintro w' ⟨s0, s1, s2, s3, s4, s5, s6, s7⟩
        go_simp
        with_reducible rfl
      rotate_left
      · simp only [Act.put, List.setIfInBounds_toArray, List.set_cons_zero, List.set_cons_succ, i64_w, i32_w]
        rfl
      refine one_ (i := 15) (N := some 22) #[true, true, true, true, true, true, true, true, true, true, true, true, true, true, true, true, false, false] rfl rfl (by kernel_rfl) (by decide) (fun K hK => ?_)
      refine goes_ Tryz.func38 (by kernel_rfl) rfl #[.agg #[.int .i64 x.f0, .string x.f1, .int .i64 x.f2, .int .i64 x.f3, .int .i64 x.f4, .int .i64 x.f5, .string x.f6, .slice A7 x.f7.length c7]] (by rfl) rfl rfl (by simp only [List.map_toArray, List.map_cons, List.map_nil]; rfl) ?_
      with_reducible refine (worth_node x A7 c7 _).mono ?_
      rintro e w6 ⟨rfl, hbb⟩
      refine ⟨_, rfl, ?_⟩
      have HB6 := Aside0.mk (below_step HB5.out hbb)
      clear hbb
      refine hK.out _ _ ⟨pw_cell_below (HB6.out) hx0, pw_cell_below (HB6.out) hx1, pw_cell_below (HB6.out) hx2, pw_cell_below (HB6.out) hx3, pw_cell_below (HB6.out) hx4, pw_cell_below (HB6.out) hx5, pw_cell_below (HB6.out) hx6, pw_cell_below (HB6.out) hx7⟩ (fun hHeld => ?_)
      clear hK K
      refine norm_ (a' := ?_) ?_ ?_
      rotate_left
      · show Act.put _ (some 22) _ = _
        simp only [Act.put, List.setIfInBounds_toArray, List.set_cons_zero, List.set_cons_succ, i64_w, i32_w]
        rfl
      refine pure_ (i := 16) (N := some 23) (v := ?_) (a' := ?_) #[true, true, true, true, true, true, true, true, true, true, true, true, true, true, true, true, true, false] rfl rfl (by kernel_rfl) (fun _ _ _ h => h) (Or.inl ⟨by rfl, ?_⟩) ?_ ?_
      rotate_left
      · intro w'
        go_simp
        with_reducible rfl
      rotate_left
      · simp only [Act.put, List.setIfInBounds_toArray, List.set_cons_zero, List.set_cons_succ, i64_w, i32_w]
        rfl
      refine pure_ (i := 17) (N := some 2) (v := ?_) (a' := ?_) #[true, true, true, true, true, true, true, true, true, true, true, true, true, true, true, true, true, true] rfl rfl (by kernel_rfl) (fun _ _ _ h => h) (Or.inl ⟨by rfl, ?_⟩) ?_ ?_
      rotate_left
      · intro w'
        go_simp
        with_reducible rfl
      rotate_left
      · simp only [Act.put, List.setIfInBounds_toArray, List.set_cons_zero, List.set_cons_succ, i64_w, i32_w]
        rfl
      refine done_ (by kernel_rfl) ?_
      go_wp2
      go_ret
      exact ⟨by rw [hF.out]; simp, HB6.out⟩
  · have g1 : decide (1 ≤ la) = false := decide_eq_false h1
    have hF : Aside0 (optIn l = false) := ⟨by have : ¬ 2 ≤ l.length := by (have := HL.out; omega)
                                              simp [optIn, this]⟩
    clear h1
    have hla2 : (l.length : Int) - 1 = la := HL.out.symm
    go_enter Tryz.func36, Tryz.ntmps36
    go_wp2
    go_quiet (fail)
    go_wp2
    go_ret
    exact ⟨by rw [hF.out]; rfl, pw_below_drewN (Below.refl _ _) _⟩
end Go.Proofs.YtdkepckkihclgaaGreatDoor.PNodeChecks

import Derived.Test.YtdkepckkihclgaaGreatDoorM17
import Derived.StillTactics
namespace Go.Proofs.YtdkepckkihclgaaGreatDoor.PNodeChecks
open Go.RowKit Go.Proofs.YtdkepckkihclgaaGreatDoorW.PrintWords Go.Proofs.YtdkepckkihclgaaGreatDoorW.PrintLast Go.Proofs.YtdkepckkihclgaaGreatDoorW.PrintMore
set_option linter.unusedVariables false
set_option linter.unusedSimpArgs false
mutual
def clF : Nat → S24 → Int → Option S24
 | 0, _, _ => none
 | k + 1, x, a => (clL k x.f7 a 0 []).map fun ys => ⟨x.f0, x.f1, x.f2, x.f3, x.f4, x.f5, x.f6, ys⟩
def clL : Nat → List S24 → Int → Int → List S24 → Option (List S24)
 | 0, _, _, _, _ => none
 | k + 1, l, a, i, ys => if i < (l.length : Int) then (if 0 ≤ i then (if a < 64 then (if ys.length < 1466015503000 then ((clF k (rd_T24 l i) (wrap64 (a + 1))).bind fun y => clL k l a (wrap64 (i + 1)) (ys ++ [y])) else none) else clL k l a (wrap64 (i + 1)) ys) else none) else some ys
end
def clFn (bD : Nat) : Value := .func (.func 94) #[] #[.pointer (some ⟨bD, 0, none⟩)]
structure KInv (w0 W : World) (bD : Nat) : Prop where
 b : Below w0.heap.size w0 W
 gD : w0.heap.size ≤ bD
 D : W.heap[bD]? = some (.cells #[clFn bD] 72 (0, 0))
theorem KInv.step {w0 W W' : World} {bD : Nat} (h : KInv w0 W bD) (hb : Below W.heap.size W W') : KInv w0 W' bD :=
 ⟨below_step h.b hb, h.gD, blk_below h.D hb⟩
theorem own_lt_R {W : World} {base : Nat} {ok : Nat → Prop} {v : Value} {xs : List S24} (h : k24.R 24 W base ok v xs) (k : Nat) (hk : v.ownBlock = some k) : k < W.heap.size :=
 ((Kd.R_bound h).1 k hk).2.2.1
theorem own_base_R {W : World} {base : Nat} {ok : Nat → Prop} {v : Value} {xs : List S24} (h : k24.R 24 W base ok v xs) (k : Nat) (hk : v.ownBlock = some k) : base ≤ k :=
 ((Kd.R_bound h).1 k hk).2.1
theorem KInv.grown {w0 W W' : World} {bD : Nat} {row : Option Nat} (h : KInv w0 W bD) (hg : W.grownBy W' row) (h1 : ∀ k, row = some k → bD < k) (h2 : ∀ k, row = some k → w0.heap.size ≤ k) : KInv w0 W' bD :=
 ⟨h.b.grown hg h.b.size h2, h.gD, blk_grown h.D hg (fun e => Nat.lt_irrefl _ (h1 bD e.symm))⟩
theorem KInv.far {w0 W : World} {bD g : Nat} (h : KInv w0 W bD) (hD : bD ≠ g) (hg : w0.heap.size ≤ g) (j : Nat) (x : Value) : KInv w0 (W.setCell ⟨g, j, none⟩ x) bD :=
 ⟨below_set h.b hg, h.gD, blk_far h.D hD _⟩
theorem clF_shape : ∀ (k : Nat) (y z : S24) (a : Int), clF k y a = some z → (⟨y.f0, y.f1, y.f2, y.f3, y.f4, y.f5, y.f6, z.f7⟩ : S24) = z
 | 0, y, z, a, h => by simp [clF] at h
 | k + 1, y, z, a, h => by
  simp only [clF] at h
  obtain ⟨zs, _, rfl⟩ := Option.map_eq_some_iff.mp h
  rfl
theorem clone_part {W4 : World} {B B' : Nat} {y : S24} {u : Value} {l : List S24} (h : k24.R 24 W4 B (fun _ => True) u l) (hB : B' ≤ B) :
  k24.M W4 B' (fun k => B ≤ k) (⟨y.f0, y.f1, y.f2, y.f3, y.f4, y.f5, y.f6, l⟩ : S24) [.int .i64 y.f0, .string y.f1, .int .i64 y.f2, .int .i64 y.f3, .int .i64 y.f4, .int .i64 y.f5, .string y.f6, u] :=
 k24_mkM W4 B' _ (⟨y.f0, y.f1, y.f2, y.f3, y.f4, y.f5, y.f6, l⟩ : S24) (Kd.R_mono (Kd.R_lower (Kd.R_mono (Kd.R_bound h) (fun _ hk => hk.2.1)) hB) (fun _ hk => hk))
def ClPost (x : S24) (zs : List S24) (W : World) (e : Ending) (W' : World) : Prop := ∃ u, e = .returned (.agg #[.int .i64 x.f0, .string x.f1, .int .i64 x.f2, .int .i64 x.f3, .int .i64 x.f4, .int .i64 x.f5, .string x.f6, u]) ∧ k24.R 24 W' W.heap.size (fun _ => True) u zs ∧ Below W.heap.size W W'
set_option maxHeartbeats 16000000 in
set_option maxRecDepth 100000 in
theorem Clone1_calls (w0 : World) (k : Nat) : ∀ (x : S24) (A : Option Addr) (c : Nat) (a : Int) (z : S24) (W : World) (bD : Nat), Kd.C k24 w0 A x.f7.length x.f7 → x.f7.length ≤ c → KInv w0 W bD → clF k x a = some z →
  Calls Tryz.prog 94 #[.agg #[.int .i64 x.f0, .string x.f1, .int .i64 x.f2, .int .i64 x.f3, .int .i64 x.f4, .int .i64 x.f5, .string x.f6, .slice A x.f7.length c], .int .i64 a, .pointer (some ⟨bD, 0, none⟩)] W (ClPost x z.f7 W) := by
 induction k using Nat.strongRecOn with
 | _ k ih =>
 intro x A c a z W bD hC hc hI h
 cases k with
 | zero => exact absurd h (by simp [clF])
 | succ k =>
 simp only [clF] at h
 obtain ⟨zs, h2, rfl⟩ := Option.map_eq_some_iff.mp h
 dsimp only
 have HC := Aside0.mk hC
 have HD := Aside0.mk hI
 have HDW := Aside0.mk (blk_lt hI.D)
 have HW0 := Aside0.mk hI.b.size
 have H := Aside0.mk h2
 clear hC hc h h2 hI
 go_enter Tryz.func94, Tryz.ntmps94
 go_wp2_with (first | ((with_reducible refine gate_dst (N := 3) rfl ?_); refine box_event ?hg (N := 3) ?hd (cs := #[.int .i64 x.f0, .string x.f1, .int .i64 x.f2, .int .i64 x.f3, .int .i64 x.f4, .int .i64 x.f5, .string x.f6, .slice A x.f7.length c]) (t := 24) ?hr ?_; (case hd => rfl); (case hg => rfl); (case hr => first | (go_simp; done) | (go_simp; rfl)); intro g hg w1 hbox hb; have HD1 := Aside0.mk (HD.out.step hb); have HB1 := Aside0.mk hb; have HX := Aside0.mk hbox; have hgW := Aside0.mk (show W.heap.size ≤ g by rw [hg]; exact Nat.le_refl _); obtain ⟨hq0, hqf0, hq1, hqf1, hq2, hqf2, hq3, hqf3, hq4, hqf4, hq5, hqf5, hq6, hqf6, hq7, hqf7⟩ := cells8 hbox; clear hbox hb hg) | ((with_reducible refine gate_dst (N := 5) rfl ?_); refine box_event ?hg (N := 5) ?hd (cs := #[.int .i64 0, .string (⟨#[]⟩ : ByteArray), .int .i64 0, .int .i64 0, .int .i64 0, .int .i64 0, .string (⟨#[]⟩ : ByteArray), .slice none 0 0]) (t := 24) ?hr ?_; (case hd => rfl); (case hg => rfl); (case hr => first | (go_simp; done) | (go_simp; rfl)); intro g5 hg w2 hbox hb; have HD2 := Aside0.mk (HD1.out.step hb); have HB2 := Aside0.mk (below_step HB1.out hb); have HX2 := Aside0.mk (blk_below HX.out hb); have HX5 := Aside0.mk hbox; have hne : g ≠ g5 := (fun e => by subst e; exact absurd (blk_lt HX.out) (by omega)); have hne' := hne.symm; have hp7 : w2.cell? ⟨g, 7, none⟩ = some (.slice A x.f7.length c) := (blk_cell HX2.out 7).trans rfl; have hp7f := blk_frozen HX2.out 7; have hgW5 := Aside0.mk (show W.heap.size ≤ g5 by rw [hg]; exact HB1.out.size); clear hbox hb hg))
 go_loopg [14] k (fun kq v14 w' => ∃ (i : Int) (v : Value) (ys : List S24), v14 = .int .i64 i ∧ Aside0 (clL kq x.f7 a i ys = some zs) ∧ Aside0 (kq ≤ k) ∧ Aside0 (KInv w0 w' bD) ∧ Aside0 (Below W.heap.size W w') ∧ Aside0 (w'.heap[g]? = some (.cells #[.int .i64 x.f0, .string x.f1, .int .i64 x.f2, .int .i64 x.f3, .int .i64 x.f4, .int .i64 x.f5, .string x.f6, v] 24 (0, 0))) ∧ Aside0 (w'.heap[g5]? = some (.cells #[.int .i64 0, .string (⟨#[]⟩ : ByteArray), .int .i64 0, .int .i64 0, .int .i64 0, .int .i64 0, .string (⟨#[]⟩ : ByteArray), .slice none 0 0] 24 (0, 0))) ∧ Aside0 (k24.R 24 w' W.heap.size (fun k => k ≠ g ∧ k ≠ g5) v ys))
 case atStart => exact ⟨0, .slice none 0 0, [], rfl, H, ⟨Nat.le_refl _⟩, ⟨KInv.far HD2.out (fun e => by have h1 := HDW.out; have h2 := hgW.out; omega) (Nat.le_trans HW0.out hgW.out) 7 _⟩, ⟨below_set HB2.out hgW.out⟩, ⟨blk_put HX2.out 7 _ rfl⟩, ⟨blk_far HX5.out hne' _⟩, ⟨Kd.R_nil _ _ _ _ _⟩⟩
 case round =>
  clear H HD1 HD2 HB1 HB2 HX HX2 HX5 hp7 hp7f hq0 hqf0 hq1 hqf1 hq2 hqf2 hq3 hqf3 hq4 hqf4 hq5 hqf5 hq6 hqf6 hq7 hqf7
  obtain ⟨i, v, ys, rfl, HA, HK, HDr, HBr, HXr, HX5r, HRr⟩ := hrel
  cases gk with
  | zero => exact absurd HA.out (by simp [clL])
  | succ k1 =>
   have H := HA.out
   clear HA
   simp only [clL] at H
   by_cases c7 : i < (x.f7.length : Int)
   ·rw [if_pos c7] at H
    by_cases c8 : 0 ≤ i
    ·rw [if_pos c8] at H
     obtain ⟨ad, A7, c77, e, hx0, hx1, hx2, hx3, hx4, hx5, hx6, hx7, hl7, hi7⟩ := at_T24 HC.out i c8 c7
     cases e
     have HB := HDr.out.b
     replace hx0 := (HB.cell (World.block_lt_of_cell? w0 _ hx0)).trans hx0
     replace hx1 := (HB.cell (World.block_lt_of_cell? w0 _ hx1)).trans hx1
     replace hx2 := (HB.cell (World.block_lt_of_cell? w0 _ hx2)).trans hx2
     replace hx3 := (HB.cell (World.block_lt_of_cell? w0 _ hx3)).trans hx3
     replace hx4 := (HB.cell (World.block_lt_of_cell? w0 _ hx4)).trans hx4
     replace hx5 := (HB.cell (World.block_lt_of_cell? w0 _ hx5)).trans hx5
     replace hx6 := (HB.cell (World.block_lt_of_cell? w0 _ hx6)).trans hx6
     replace hx7 := (HB.cell (World.block_lt_of_cell? w0 _ hx7)).trans hx7
     have HY := Aside0.mk hi7
     have HY7 := Aside0.mk hl7
     clear hi7 hl7 HB
     have c7b := decide_eq_true c7
     have c8b := decide_eq_true c8
     replace c7 := eq_true c7
     replace c8 := eq_true c8
     obtain ⟨y, hy⟩ : ∃ y, rd_T24 x.f7 i = y := ⟨_, rfl⟩
     rw [hy] at H HY HY7 hx0 hx1 hx2 hx3 hx4 hx5 hx6 hx7
     clear hy
     by_cases c9 : a < 64
     ·rw [if_pos c9] at H
      have c9b : decide (a < 64) = true := decide_eq_true c9
      clear c9
      by_cases c10 : ys.length < 1466015503000
      ·rw [if_pos c10] at H
       have LM := Aside0.mk c10
       clear c10
       replace H := Option.bind_eq_some_iff.mp H
       obtain ⟨z1, A1, H⟩ := H
       have A1 := Aside0.mk A1
       have H := Aside0.mk H
       go_upto_region 7 with (first | ((with_reducible refine gate_dst (N := 8) rfl ?_); refine box_event ?hg (N := 8) ?hd (cs := #[.int .i64 0, .string (⟨#[]⟩ : ByteArray), .int .i64 0, .int .i64 0, .int .i64 0, .int .i64 0, .string (⟨#[]⟩ : ByteArray), .slice none 0 0]) (t := 24) ?hr ?_; (case hd => rfl); (case hg => rfl); (case hr => first | (go_simp; done) | (go_simp; rfl)); intro g2 hg w3 hbox hb; have HD3 := Aside0.mk (HDr.out.step hb); have HB3 := Aside0.mk (below_step HBr.out hb); have HX3 := Aside0.mk (blk_below HXr.out hb); have HX53 := Aside0.mk (blk_below HX5r.out hb); have hne52 : g5 ≠ g2 := (fun e => by subst e; exact absurd (blk_lt HX5r.out) (by omega)); have hD2 : bD ≠ g2 := (fun e => by subst e; exact absurd (blk_lt HDr.out.D) (by omega)); have hg02 := Aside0.mk (show w0.heap.size ≤ g2 by rw [hg]; exact HDr.out.b.size); have HR3 := Aside0.mk (Kd.R_mono (ok' := fun k => (k ≠ g ∧ k ≠ g5) ∧ k ≠ g2) (Kd.R_below (Kd.R_mono (Kd.R_bound HRr.out) (fun k hk => (⟨hk.1, by rw [hg]; exact Nat.ne_of_lt hk.2.2.1⟩ : (k ≠ g ∧ k ≠ g5) ∧ k ≠ g2))) hb) (fun _ hk => hk)); have hne2 : g ≠ g2 := (fun e => by subst e; exact absurd (blk_lt HXr.out) (by omega)); have hne3 := hne2.symm; have HKB := Aside0.mk hbox; have hgW2 := Aside0.mk (show W.heap.size ≤ g2 by rw [hg]; exact HBr.out.size); have HLT := Aside0.mk (show ∀ k, v.ownBlock = some k → k < g2 by rw [hg]; exact fun k e => own_lt_R HRr.out k e); obtain ⟨hz0, hzf0, hz1, hzf1, hz2, hzf2, hz3, hzf3, hz4, hzf4, hz5, hzf5, hz6, hzf6, hz7, hzf7⟩ := cells8 hbox; clear hbox hb hg))
       obtain ⟨wq, hwq⟩ : ∃ wq, ((((((((w3.setCell ⟨g2, 0, none⟩ (.int .i64 y.f0)).setCell ⟨g2, 1, none⟩ (.string y.f1)).setCell ⟨g2, 2, none⟩ (.int .i64 y.f2)).setCell ⟨g2, 3, none⟩ (.int .i64 y.f3)).setCell ⟨g2, 4, none⟩ (.int .i64 y.f4)).setCell ⟨g2, 5, none⟩ (.int .i64 y.f5)).setCell ⟨g2, 6, none⟩ (.string y.f6)).setCell ⟨g2, 7, none⟩ (.slice A7 y.f7.length c77)) = wq := ⟨_, rfl⟩
       have HDq : Aside0 (KInv w0 wq bD) := ⟨hwq ▸ (KInv.far (KInv.far (KInv.far (KInv.far (KInv.far (KInv.far (KInv.far (KInv.far HD3.out hD2 hg02.out 0 _) hD2 hg02.out 1 _) hD2 hg02.out 2 _) hD2 hg02.out 3 _) hD2 hg02.out 4 _) hD2 hg02.out 5 _) hD2 hg02.out 6 _) hD2 hg02.out 7 _)⟩
       have HBq : Aside0 (Below W.heap.size W wq) := ⟨hwq ▸ (below_set (below_set (below_set (below_set (below_set (below_set (below_set (below_set HB3.out hgW2.out (j := 0)) hgW2.out (j := 1)) hgW2.out (j := 2)) hgW2.out (j := 3)) hgW2.out (j := 4)) hgW2.out (j := 5)) hgW2.out (j := 6)) hgW2.out (j := 7))⟩
       have HXq : Aside0 (wq.heap[g]? = some (.cells #[.int .i64 x.f0, .string x.f1, .int .i64 x.f2, .int .i64 x.f3, .int .i64 x.f4, .int .i64 x.f5, .string x.f6, v] 24 (0, 0))) := ⟨hwq ▸ (blk_far (blk_far (blk_far (blk_far (blk_far (blk_far (blk_far (blk_far HX3.out hne2 _) hne2 _) hne2 _) hne2 _) hne2 _) hne2 _) hne2 _) hne2 _)⟩
       have HX5q : Aside0 (wq.heap[g5]? = some (.cells #[.int .i64 0, .string (⟨#[]⟩ : ByteArray), .int .i64 0, .int .i64 0, .int .i64 0, .int .i64 0, .string (⟨#[]⟩ : ByteArray), .slice none 0 0] 24 (0, 0))) := ⟨hwq ▸ (blk_far (blk_far (blk_far (blk_far (blk_far (blk_far (blk_far (blk_far HX53.out hne52 _) hne52 _) hne52 _) hne52 _) hne52 _) hne52 _) hne52 _) hne52 _)⟩
       have HRq : Aside0 (k24.R 24 wq W.heap.size (fun k => k ≠ g ∧ k ≠ g5) v ys) := ⟨hwq ▸ Kd.R_mono (Kd.R_far (p := ⟨g2, 7, none⟩) (Kd.R_far (p := ⟨g2, 6, none⟩) (Kd.R_far (p := ⟨g2, 5, none⟩) (Kd.R_far (p := ⟨g2, 4, none⟩) (Kd.R_far (p := ⟨g2, 3, none⟩) (Kd.R_far (p := ⟨g2, 2, none⟩) (Kd.R_far (p := ⟨g2, 1, none⟩) (Kd.R_far (p := ⟨g2, 0, none⟩) HR3.out (fun k hk => hk.2) _) (fun k hk => hk.2) _) (fun k hk => hk.2) _) (fun k hk => hk.2) _) (fun k hk => hk.2) _) (fun k hk => hk.2) _) (fun k hk => hk.2) _) (fun k hk => hk.2) _) (fun _ hk => hk.1)⟩
       have HKq : Aside0 (wq.heap[g2]? = some (.cells #[.int .i64 y.f0, .string y.f1, .int .i64 y.f2, .int .i64 y.f3, .int .i64 y.f4, .int .i64 y.f5, .string y.f6, .slice A7 y.f7.length c77] 24 (0, 0))) := ⟨hwq ▸ (blk_put (blk_put (blk_put (blk_put (blk_put (blk_put (blk_put (blk_put HKB.out 0 _ rfl) 1 _ rfl) 2 _ rfl) 3 _ rfl) 4 _ rfl) 5 _ rfl) 6 _ rfl) 7 _ rfl)⟩
       have HWq : Aside0 (W.heap.size ≤ wq.heap.size) := ⟨HBq.out.size⟩
       have HGq : Aside0 (g < wq.heap.size) := ⟨blk_lt HXq.out⟩
       have HG5q : Aside0 (g5 < wq.heap.size) := ⟨blk_lt HX5q.out⟩
       have hv7 : wq.cell? ⟨g, 7, none⟩ = some v := (blk_cell HXq.out 7).trans rfl
       have hD : wq.cell? ⟨bD, 0, none⟩ = some (clFn bD) := (blk_cell HDq.out.D 0).trans rfl
       have hk0 : wq.cell? ⟨g2, 0, none⟩ = some (.int .i64 y.f0) := (blk_cell HKq.out 0).trans rfl
       have hk1 : wq.cell? ⟨g2, 1, none⟩ = some (.string y.f1) := (blk_cell HKq.out 1).trans rfl
       have hk2 : wq.cell? ⟨g2, 2, none⟩ = some (.int .i64 y.f2) := (blk_cell HKq.out 2).trans rfl
       have hk3 : wq.cell? ⟨g2, 3, none⟩ = some (.int .i64 y.f3) := (blk_cell HKq.out 3).trans rfl
       have hk4 : wq.cell? ⟨g2, 4, none⟩ = some (.int .i64 y.f4) := (blk_cell HKq.out 4).trans rfl
       have hk5 : wq.cell? ⟨g2, 5, none⟩ = some (.int .i64 y.f5) := (blk_cell HKq.out 5).trans rfl
       have hk6 : wq.cell? ⟨g2, 6, none⟩ = some (.string y.f6) := (blk_cell HKq.out 6).trans rfl
       have hk7 : wq.cell? ⟨g2, 7, none⟩ = some (.slice A7 y.f7.length c77) := (blk_cell HKq.out 7).trans rfl
       rw [hwq]
       clear hwq HDr HBr HXr HX5r HRr HD3 HB3 HX3 HX53 HR3 HKB hz0 hzf0 hz1 hzf1 hz2 hzf2 hz3 hzf3 hz4 hzf4 hz5 hzf5 hz6 hzf6 hz7 hzf7
       refine start_ (n := 11) (S := fun w' => w'.cell? ⟨g, 7, none⟩ = some v ∧ w'.cell? ⟨bD, 0, none⟩ = some (clFn bD) ∧ w'.cell? ⟨g2, 0, none⟩ = some (.int .i64 y.f0) ∧ w'.cell? ⟨g2, 1, none⟩ = some (.string y.f1) ∧ w'.cell? ⟨g2, 2, none⟩ = some (.int .i64 y.f2) ∧ w'.cell? ⟨g2, 3, none⟩ = some (.int .i64 y.f3) ∧ w'.cell? ⟨g2, 4, none⟩ = some (.int .i64 y.f4) ∧ w'.cell? ⟨g2, 5, none⟩ = some (.int .i64 y.f5) ∧ w'.cell? ⟨g2, 6, none⟩ = some (.string y.f6) ∧ w'.cell? ⟨g2, 7, none⟩ = some (.slice A7 y.f7.length c77)) (ds := [8, 10]) #[false, false, false, false, false, false, false, false, false, false, false] (by kernel_rfl) rfl rfl ⟨hv7, hD, hk0, hk1, hk2, hk3, hk4, hk5, hk6, hk7⟩ (fun hHeld => ?_)
       refine pure_ (i := 0) (N := some 20) (v := ?_) (a' := ?_) #[true, false, false, false, false, false, false, false, false, false, false] rfl rfl (by kernel_rfl) (fun _ _ _ h => h) (Or.inl ⟨by rfl, ?_⟩) ?_ ?_
       rotate_left
       ·intro w'
        go_simp
        with_reducible rfl
       rotate_left
       ·simp only [Act.put, List.setIfInBounds_toArray, List.set_cons_zero, List.set_cons_succ, i64_w, i32_w]
        rfl
       refine pure_ (i := 4) (N := some 24) (v := ?_) (a' := ?_) #[true, false, false, false, true, false, false, false, false, false, false] rfl rfl (by kernel_rfl) (fun _ _ _ h => h) (Or.inl ⟨by rfl, ?_⟩) ?_ ?_
       rotate_left
       ·intro w'
        go_simp
        with_reducible rfl
       rotate_left
       ·simp only [Act.put, List.setIfInBounds_toArray, List.set_cons_zero, List.set_cons_succ, i64_w, i32_w]
        rfl
       refine pure_ (i := 5) (N := some 25) (v := ?_) (a' := ?_) #[true, false, false, false, true, true, false, false, false, false, false] rfl rfl (by kernel_rfl) (fun _ _ _ h => h) (Or.inl ⟨by rfl, ?_⟩) ?_ ?_
       rotate_left
       ·intro w'
        go_simp
        with_reducible rfl
       rotate_left
       ·simp only [Act.put, List.setIfInBounds_toArray, List.set_cons_zero, List.set_cons_succ, i64_w, i32_w]
        rfl
       refine take_ (i := 1) (N := some 21) (v := ?_) (a' := ?_) #[true, true, false, false, true, true, false, false, false, false, false] rfl rfl (by kernel_rfl) (fun _ _ _ h => h) (Or.inl ⟨by rfl, ?_⟩) hHeld ?_ ?_
       rotate_left
       ·rintro w' ⟨s0, s1, s2, s3, s4, s5, s6, s7, s8, s9⟩
        go_simp
        with_reducible rfl
       rotate_left
       ·simp only [Act.put, List.setIfInBounds_toArray, List.set_cons_zero, List.set_cons_succ, i64_w, i32_w]
        rfl
       refine take_ (i := 2) (N := some 22) (v := ?_) (a' := ?_) #[true, true, true, false, true, true, false, false, false, false, false] rfl rfl (by kernel_rfl) (fun _ _ _ h => h) (Or.inl ⟨by rfl, ?_⟩) hHeld ?_ ?_
       rotate_left
       ·rintro w' ⟨s0, s1, s2, s3, s4, s5, s6, s7, s8, s9⟩
        go_simp
        with_reducible rfl
       rotate_left
       ·simp only [Act.put, List.setIfInBounds_toArray, List.set_cons_zero, List.set_cons_succ, i64_w, i32_w]
        rfl
       refine take_ (i := 3) (N := some 23) (v := ?_) (a' := ?_) #[true, true, true, true, true, true, false, false, false, false, false] rfl rfl (by kernel_rfl) (fun _ _ _ h => h) (Or.inl ⟨by rfl, ?_⟩) hHeld ?_ ?_
       rotate_left
       ·rintro w' ⟨s0, s1, s2, s3, s4, s5, s6, s7, s8, s9⟩
        go_simp
        with_reducible rfl
       rotate_left
       ·simp only [Act.put, List.setIfInBounds_toArray, List.set_cons_zero, List.set_cons_succ, i64_w, i32_w]
        rfl
       refine one_ (i := 6) (N := some 26) #[true, true, true, true, true, true, true, false, false, false, false] rfl rfl (by kernel_rfl) (by decide) (fun K hK => ?_)
       refine goesV_ Tryz.func94 (by kernel_rfl) rfl #[.agg #[.int .i64 y.f0, .string y.f1, .int .i64 y.f2, .int .i64 y.f3, .int .i64 y.f4, .int .i64 y.f5, .string y.f6, .slice A7 y.f7.length c77], .int .i64 (wrap64 (a + 1))] (cap := #[.pointer (some ⟨bD, 0, none⟩)]) (by rfl) rfl rfl (by rfl) (by simp only [List.map_toArray, List.map_cons, List.map_nil]; rfl) (all := #[.agg #[.int .i64 y.f0, .string y.f1, .int .i64 y.f2, .int .i64 y.f3, .int .i64 y.f4, .int .i64 y.f5, .string y.f6, .slice A7 y.f7.length c77], .int .i64 (wrap64 (a + 1)), .pointer (some ⟨bD, 0, none⟩)]) rfl ?_
       with_reducible refine (ih k1 (by have := HK.out; omega) y A7 c77 (wrap64 (a + 1)) z1 _ bD HY.out HY7.out (HDq.out.step (below_drew (Below.refl _ _))) A1.out).mono ?_
       rintro e w4 ⟨u, rfl, hu, hbb⟩
       refine ⟨_, rfl, ?_⟩
       have HU := Aside0.mk hu
       have HB4 := Aside0.mk (below_then (below_drew (Below.refl wq.heap.size wq)) (Nat.le_refl _) hbb)
       clear hu hbb
       refine hK.out _ _ ⟨pw_cell_below (HB4.out) hv7, pw_cell_below (HB4.out) hD, pw_cell_below (HB4.out) hk0, pw_cell_below (HB4.out) hk1, pw_cell_below (HB4.out) hk2, pw_cell_below (HB4.out) hk3, pw_cell_below (HB4.out) hk4, pw_cell_below (HB4.out) hk5, pw_cell_below (HB4.out) hk6, pw_cell_below (HB4.out) hk7⟩ (fun hHeld => ?_)
       clear hK K
       refine norm_ (a' := ?_) ?_ ?_
       rotate_left
       ·show Act.put _ (some 26) _ = _
        simp only [Act.put, List.setIfInBounds_toArray, List.set_cons_zero, List.set_cons_succ, i64_w, i32_w]
        rfl
       refine one_ (i := 7) (N := some 27) #[true, true, true, true, true, true, true, true, false, false, false] rfl rfl (by kernel_rfl) (by decide) (fun K hK => ?_)
       refine value_ (w1 := ?_) (v := ?_) (by rfl) rfl ?_ ?_
       rotate_left 2
       ·go_simp
        constructor
        ·rfl
        ·rfl
       refine hK.out _ _ ⟨pw_cell_below (below_alloc HB4.out _) hv7, pw_cell_below (below_alloc HB4.out _) hD, pw_cell_below (below_alloc HB4.out _) hk0, pw_cell_below (below_alloc HB4.out _) hk1, pw_cell_below (below_alloc HB4.out _) hk2, pw_cell_below (below_alloc HB4.out _) hk3, pw_cell_below (below_alloc HB4.out _) hk4, pw_cell_below (below_alloc HB4.out _) hk5, pw_cell_below (below_alloc HB4.out _) hk6, pw_cell_below (below_alloc HB4.out _) hk7⟩ (fun hHeld => ?_)
       clear hK K
       refine norm_ (a' := ?_) ?_ ?_
       rotate_left
       ·show Act.put _ (some 27) _ = _
        simp only [Act.put, List.setIfInBounds_toArray, List.set_cons_zero, List.set_cons_succ, i64_w, i32_w]
        rfl
       refine last_ (i := 8) (N := some 28) #[true, true, true, true, true, true, true, true, true, false, false] rfl rfl (by kernel_rfl) (by decide) (fun K hK => ?_)
       refine Kd.R_append_step k24 (w0 := W) W.heap.size (by rfl) (.tmp 21) (.tmp 27) 22 24 _ 96 rfl Tryz.underlying22 info24 rfl (by decide) (by decide) v ys ⟨y.f0, y.f1, y.f2, y.f3, y.f4, y.f5, y.f6, z1.f7⟩ [.int .i64 y.f0, .string y.f1, .int .i64 y.f2, .int .i64 y.f3, .int .i64 y.f4, .int .i64 y.f5, .string y.f6, u] (fun k => k ≠ g ∧ k ≠ g5) (fun k => wq.heap.size ≤ k) rfl rfl ?aP ?aF ?aN ?aO ?aB ?aS ?aL ?_
       (case aP => exact clone_part HU.out HWq.out)
       (case aF => exact (fun k hk => ⟨⟨fun e => by subst e; exact absurd HGq.out (Nat.not_lt.mpr hk), fun e => by subst e; exact absurd HG5q.out (Nat.not_lt.mpr hk)⟩, fun e => absurd (own_lt_R HRq.out k e.symm) (Nat.not_lt.mpr hk)⟩))
       (case aN => exact (fun k hk => ⟨fun e => by subst e; have := HGq.out; have := HB4.out.size; omega, fun e => by subst e; have := HG5q.out; have := HB4.out.size; omega⟩))
       (case aO => exact Kd.R_below HRq.out HB4.out)
       (case aB => exact HBq.out.trans (HB4.out.mono HWq.out))
       (case aS => exact Nat.le_trans HWq.out HB4.out.size)
       (case aL => have := LM.out; omega)
       intro v1 w5 ho hb hg hat
       obtain ⟨A1v, c1v, hv1⟩ := Kd.R_slice ho
       simp only [List.length_append, List.length_cons, List.length_nil, Nat.zero_add] at hv1
       subst hv1
       have HO5 := Aside0.mk ho
       have HB5 := Aside0.mk hb
       have HG5 := Aside0.mk hg
       clear ho hb hg hat
       have HX5 := Aside0.mk (blk_grown (blk_below HXq.out HB4.out) HG5.out (fun e => (HRq.out.1 g e.symm).1 rfl) : w5.heap[g]? = some (.cells #[.int .i64 x.f0, .string x.f1, .int .i64 x.f2, .int .i64 x.f3, .int .i64 x.f4, .int .i64 x.f5, .string x.f6, v] 24 (0, 0)))
       have HX55 := Aside0.mk (blk_grown (blk_below HX5q.out HB4.out) HG5.out (fun e => (HRq.out.1 g5 e.symm).2 rfl) : w5.heap[g5]? = some (.cells #[.int .i64 0, .string (⟨#[]⟩ : ByteArray), .int .i64 0, .int .i64 0, .int .i64 0, .int .i64 0, .string (⟨#[]⟩ : ByteArray), .slice none 0 0] 24 (0, 0)))
       have HD5 := Aside0.mk (KInv.grown (HDq.out.step HB4.out) HG5.out (fun k e => Nat.lt_of_lt_of_le HDW.out (own_base_R HRq.out k e)) (fun k e => Nat.le_trans HW0.out (own_base_R HRq.out k e)))
       have hc7 : w5.cell? ⟨g, 7, none⟩ = some v := (blk_cell HX5.out 7).trans rfl
       have hf7 := blk_frozen HX5.out 7
       refine hK.out _ _ ?_
       clear hK K
       refine norm_ (a' := ?_) ?_ ?_
       rotate_left
       ·show Act.put _ (some 28) _ = _
        simp only [Act.put, List.setIfInBounds_toArray, List.set_cons_zero, List.set_cons_succ, i64_w, i32_w]
        rfl
       refine pure_ (i := 9) (N := some 29) (v := ?_) (a' := ?_) #[true, true, true, true, true, true, true, true, true, true, false] rfl rfl (by kernel_rfl) (fun _ _ _ h => h) (Or.inl ⟨by rfl, ?_⟩) ?_ ?_
       rotate_left
       ·intro w'
        go_simp
        with_reducible rfl
       rotate_left
       ·simp only [Act.put, List.setIfInBounds_toArray, List.set_cons_zero, List.set_cons_succ, i64_w, i32_w]
        rfl
       refine last_ (i := 10) (N := none) #[true, true, true, true, true, true, true, true, true, true, true] rfl rfl (by kernel_rfl) (by decide) (fun K hK => ?_)
       refine skip_ (w1 := ?_) (by rfl) rfl ?_ ?_
       rotate_left
       ·go_simp
        rfl
       refine hK.out _ _ ?_
       clear hK K
       refine done_ (by kernel_rfl) ?_
       go_wp2
       go_roundg k1
       case measure => have := HK.out; omega
       case rel => exact ⟨wrap64 (i + 1), _, ys ++ [⟨y.f0, y.f1, y.f2, y.f3, y.f4, y.f5, y.f6, z1.f7⟩], rfl, ⟨by rw [clF_shape _ _ _ _ A1.out]; exact H.out⟩, ⟨by have := HK.out; omega⟩, ⟨KInv.far HD5.out (fun e => by have h1 := HDW.out; have h2 := hgW.out; omega) (Nat.le_trans HW0.out hgW.out) 7 _⟩, ⟨below_set HB5.out hgW.out⟩, ⟨blk_put HX5.out 7 _ rfl⟩, ⟨blk_far HX55.out hne.symm _⟩, ⟨Kd.R_far (p := ⟨g, 7, none⟩) HO5.out (fun k hk => hk.1) _⟩⟩
      ·rw [if_neg c10] at H
       exact absurd H (by simp)
     ·rw [if_neg c9] at H
      have c9b : decide (a < 64) = false := decide_eq_false c9
      clear c9
      have H := Aside0.mk H
      go_wp2_with (first | ((with_reducible refine gate_dst (N := 8) rfl ?_); refine box_event ?hg (N := 8) ?hd (cs := #[.int .i64 0, .string (⟨#[]⟩ : ByteArray), .int .i64 0, .int .i64 0, .int .i64 0, .int .i64 0, .string (⟨#[]⟩ : ByteArray), .slice none 0 0]) (t := 24) ?hr ?_; (case hd => rfl); (case hg => rfl); (case hr => first | (go_simp; done) | (go_simp; rfl)); intro g2 hg w3 hbox hb; have HD3 := Aside0.mk (HDr.out.step hb); have HB3 := Aside0.mk (below_step HBr.out hb); have HX3 := Aside0.mk (blk_below HXr.out hb); have HX53 := Aside0.mk (blk_below HX5r.out hb); have hne52 : g5 ≠ g2 := (fun e => by subst e; exact absurd (blk_lt HX5r.out) (by omega)); have hD2 : bD ≠ g2 := (fun e => by subst e; exact absurd (blk_lt HDr.out.D) (by omega)); have hg02 := Aside0.mk (show w0.heap.size ≤ g2 by rw [hg]; exact HDr.out.b.size); have HR3 := Aside0.mk (Kd.R_mono (ok' := fun k => (k ≠ g ∧ k ≠ g5) ∧ k ≠ g2) (Kd.R_below (Kd.R_mono (Kd.R_bound HRr.out) (fun k hk => (⟨hk.1, by rw [hg]; exact Nat.ne_of_lt hk.2.2.1⟩ : (k ≠ g ∧ k ≠ g5) ∧ k ≠ g2))) hb) (fun _ hk => hk)); have hne2 : g ≠ g2 := (fun e => by subst e; exact absurd (blk_lt HXr.out) (by omega)); have hne3 := hne2.symm; have HKB := Aside0.mk hbox; have hgW2 := Aside0.mk (show W.heap.size ≤ g2 by rw [hg]; exact HBr.out.size); have HLT := Aside0.mk (show ∀ k, v.ownBlock = some k → k < g2 by rw [hg]; exact fun k e => own_lt_R HRr.out k e); obtain ⟨hz0, hzf0, hz1, hzf1, hz2, hzf2, hz3, hzf3, hz4, hzf4, hz5, hzf5, hz6, hzf6, hz7, hzf7⟩ := cells8 hbox; clear hbox hb hg))
      go_roundg k1
      case measure => have := HK.out; omega
      case rel => exact ⟨wrap64 (i + 1), v, ys, rfl, H, ⟨by have := HK.out; omega⟩, ⟨(KInv.far (KInv.far (KInv.far (KInv.far (KInv.far (KInv.far (KInv.far (KInv.far HD3.out hD2 hg02.out 0 _) hD2 hg02.out 1 _) hD2 hg02.out 2 _) hD2 hg02.out 3 _) hD2 hg02.out 4 _) hD2 hg02.out 5 _) hD2 hg02.out 6 _) hD2 hg02.out 7 _)⟩, ⟨(below_set (below_set (below_set (below_set (below_set (below_set (below_set (below_set HB3.out hgW2.out (j := 0)) hgW2.out (j := 1)) hgW2.out (j := 2)) hgW2.out (j := 3)) hgW2.out (j := 4)) hgW2.out (j := 5)) hgW2.out (j := 6)) hgW2.out (j := 7))⟩, ⟨(blk_far (blk_far (blk_far (blk_far (blk_far (blk_far (blk_far (blk_far HX3.out hne2 _) hne2 _) hne2 _) hne2 _) hne2 _) hne2 _) hne2 _) hne2 _)⟩, ⟨(blk_far (blk_far (blk_far (blk_far (blk_far (blk_far (blk_far (blk_far HX53.out hne52 _) hne52 _) hne52 _) hne52 _) hne52 _) hne52 _) hne52 _) hne52 _)⟩, ⟨Kd.R_mono (Kd.R_far (p := ⟨g2, 7, none⟩) (Kd.R_far (p := ⟨g2, 6, none⟩) (Kd.R_far (p := ⟨g2, 5, none⟩) (Kd.R_far (p := ⟨g2, 4, none⟩) (Kd.R_far (p := ⟨g2, 3, none⟩) (Kd.R_far (p := ⟨g2, 2, none⟩) (Kd.R_far (p := ⟨g2, 1, none⟩) (Kd.R_far (p := ⟨g2, 0, none⟩) HR3.out (fun k hk => hk.2) _) (fun k hk => hk.2) _) (fun k hk => hk.2) _) (fun k hk => hk.2) _) (fun k hk => hk.2) _) (fun k hk => hk.2) _) (fun k hk => hk.2) _) (fun k hk => hk.2) _) (fun _ hk => hk.1)⟩⟩
    ·rw [if_neg c8] at H
     exact absurd H (by simp)
   ·rw [if_neg c7] at H
    obtain rfl := Option.some.inj H
    have c7b := decide_eq_false c7
    clear c7
    obtain ⟨Av, cv, hv⟩ := Kd.R_slice HRr.out
    subst hv
    have HRe := Aside0.mk (Kd.R_mono (ok' := fun k => k ≠ g ∧ k ≠ g5) HRr.out (fun _ hk => hk))
    have HBe := HBr
    have hg0 : wr.cell? ⟨g, 0, none⟩ = some (.int .i64 x.f0) := (blk_cell HXr.out 0).trans rfl
    have hg1 : wr.cell? ⟨g, 1, none⟩ = some (.string x.f1) := (blk_cell HXr.out 1).trans rfl
    have hg2 : wr.cell? ⟨g, 2, none⟩ = some (.int .i64 x.f2) := (blk_cell HXr.out 2).trans rfl
    have hg3 : wr.cell? ⟨g, 3, none⟩ = some (.int .i64 x.f3) := (blk_cell HXr.out 3).trans rfl
    have hg4 : wr.cell? ⟨g, 4, none⟩ = some (.int .i64 x.f4) := (blk_cell HXr.out 4).trans rfl
    have hg5 : wr.cell? ⟨g, 5, none⟩ = some (.int .i64 x.f5) := (blk_cell HXr.out 5).trans rfl
    have hg6 : wr.cell? ⟨g, 6, none⟩ = some (.string x.f6) := (blk_cell HXr.out 6).trans rfl
    have hg7 : wr.cell? ⟨g, 7, none⟩ = some (.slice Av ys.length cv) := (blk_cell HXr.out 7).trans rfl
    obtain ⟨hs0, hsf0, hs1, hsf1, hs2, hsf2, hs3, hsf3, hs4, hsf4, hs5, hsf5, hs6, hsf6, hs7, hsf7⟩ := cells8 HX5r.out
    have hne' := hne.symm
    go_wp2
    obtain ⟨wf, hwf⟩ : ∃ wf, ((((((((wr.setCell ⟨g5, 0, none⟩ (.int .i64 x.f0)).setCell ⟨g5, 1, none⟩ (.string x.f1)).setCell ⟨g5, 2, none⟩ (.int .i64 x.f2)).setCell ⟨g5, 3, none⟩ (.int .i64 x.f3)).setCell ⟨g5, 4, none⟩ (.int .i64 x.f4)).setCell ⟨g5, 5, none⟩ (.int .i64 x.f5)).setCell ⟨g5, 6, none⟩ (.string x.f6)).setCell ⟨g5, 7, none⟩ (.slice Av ys.length cv)) = wf := ⟨_, rfl⟩
    have hF : wf.heap[g5]? = some (.cells #[.int .i64 x.f0, .string x.f1, .int .i64 x.f2, .int .i64 x.f3, .int .i64 x.f4, .int .i64 x.f5, .string x.f6, .slice Av ys.length cv] 24 (0, 0)) := hwf ▸ (blk_put (blk_put (blk_put (blk_put (blk_put (blk_put (blk_put (blk_put HX5r.out 0 _ rfl) 1 _ rfl) 2 _ rfl) 3 _ rfl) 4 _ rfl) 5 _ rfl) 6 _ rfl) 7 _ rfl)
    have HRf : k24.R 24 wf W.heap.size (fun _ => True) (.slice Av ys.length cv) ys := hwf ▸ Kd.R_mono (Kd.R_far (p := ⟨g5, 7, none⟩) (Kd.R_far (p := ⟨g5, 6, none⟩) (Kd.R_far (p := ⟨g5, 5, none⟩) (Kd.R_far (p := ⟨g5, 4, none⟩) (Kd.R_far (p := ⟨g5, 3, none⟩) (Kd.R_far (p := ⟨g5, 2, none⟩) (Kd.R_far (p := ⟨g5, 1, none⟩) (Kd.R_far (p := ⟨g5, 0, none⟩) HRe.out (fun k hk => hk.2) _) (fun k hk => hk.2) _) (fun k hk => hk.2) _) (fun k hk => hk.2) _) (fun k hk => hk.2) _) (fun k hk => hk.2) _) (fun k hk => hk.2) _) (fun k hk => hk.2) _) (fun _ _ => trivial)
    have HBf : Below W.heap.size W wf := hwf ▸ (below_set (below_set (below_set (below_set (below_set (below_set (below_set (below_set HBe.out hgW5.out (j := 0)) hgW5.out (j := 1)) hgW5.out (j := 2)) hgW5.out (j := 3)) hgW5.out (j := 4)) hgW5.out (j := 5)) hgW5.out (j := 6)) hgW5.out (j := 7))
    rw [hwf]
    have hcf0 : wf.cell? ⟨g5, 0, none⟩ = some (.int .i64 x.f0) := (blk_cell hF 0).trans rfl
    have hcf1 : wf.cell? ⟨g5, 1, none⟩ = some (.string x.f1) := (blk_cell hF 1).trans rfl
    have hcf2 : wf.cell? ⟨g5, 2, none⟩ = some (.int .i64 x.f2) := (blk_cell hF 2).trans rfl
    have hcf3 : wf.cell? ⟨g5, 3, none⟩ = some (.int .i64 x.f3) := (blk_cell hF 3).trans rfl
    have hcf4 : wf.cell? ⟨g5, 4, none⟩ = some (.int .i64 x.f4) := (blk_cell hF 4).trans rfl
    have hcf5 : wf.cell? ⟨g5, 5, none⟩ = some (.int .i64 x.f5) := (blk_cell hF 5).trans rfl
    have hcf6 : wf.cell? ⟨g5, 6, none⟩ = some (.string x.f6) := (blk_cell hF 6).trans rfl
    have hcf7 : wf.cell? ⟨g5, 7, none⟩ = some (.slice Av ys.length cv) := (blk_cell hF 7).trans rfl
    refine bodyPost_ret (v := .agg #[.int .i64 x.f0, .string x.f1, .int .i64 x.f2, .int .i64 x.f3, .int .i64 x.f4, .int .i64 x.f5, .string x.f6, .slice Av ys.length cv]) ?_ rfl ⟨.slice Av ys.length cv, rfl, HRf, HBf⟩
    simp [results, Tryz.results94, go_sem, hcf0, hcf1, hcf2, hcf3, hcf4, hcf5, hcf6, hcf7]
end Go.Proofs.YtdkepckkihclgaaGreatDoor.PNodeChecks
namespace Go.Proofs.YtdkepckkihclgaaGreatDoor.PNodeChecks
open Go.RowKit Go.Proofs.YtdkepckkihclgaaGreatDoorW.PrintWords Go.Proofs.YtdkepckkihclgaaGreatDoorW.PrintLast Go.Proofs.YtdkepckkihclgaaGreatDoorW.PrintMore
set_option linter.unusedVariables false
set_option linter.unusedSimpArgs false
set_option maxHeartbeats 16000000 in
set_option maxRecDepth 100000 in
theorem Clone_calls (k : Nat) (x : S24) (A : Option Addr) (c : Nat) (z : S24) (w : World) (hC : Kd.C k24 w A x.f7.length x.f7) (hc : x.f7.length ≤ c) (h : clF k x 1 = some z) :
  Calls Tryz.prog 74 #[.agg #[.int .i64 x.f0, .string x.f1, .int .i64 x.f2, .int .i64 x.f3, .int .i64 x.f4, .int .i64 x.f5, .string x.f6, .slice A x.f7.length c]] w (ClPost x z.f7 w) := by
 have HC := Aside0.mk hC
 have Hc := Aside0.mk hc
 have H := Aside0.mk h
 obtain ⟨zs, hzs⟩ : ∃ zs, z.f7 = zs := ⟨_, rfl⟩
 rw [hzs]
 have HZS := Aside0.mk hzs
 clear hC hc h hzs
 go_enter Tryz.func74, Tryz.ntmps74
 go_wp2_with (first | ((with_reducible refine gate_dst (N := 1) rfl ?_); refine box_event ?hg (N := 1) ?hd (cs := #[.int .i64 x.f0, .string x.f1, .int .i64 x.f2, .int .i64 x.f3, .int .i64 x.f4, .int .i64 x.f5, .string x.f6, .slice A x.f7.length c]) (t := 24) ?hr ?_; (case hd => rfl); (case hg => rfl); (case hr => first | (go_simp; done) | (go_simp; rfl)); intro g hg w1 hbox hb; have HB1 := Aside0.mk hb; have hq0 : w1.cell? ⟨g, 0, none⟩ = some (.int .i64 x.f0) := (blk_cell hbox 0).trans rfl; have hq1 : w1.cell? ⟨g, 1, none⟩ = some (.string x.f1) := (blk_cell hbox 1).trans rfl; have hq2 : w1.cell? ⟨g, 2, none⟩ = some (.int .i64 x.f2) := (blk_cell hbox 2).trans rfl; have hq3 : w1.cell? ⟨g, 3, none⟩ = some (.int .i64 x.f3) := (blk_cell hbox 3).trans rfl; have hq4 : w1.cell? ⟨g, 4, none⟩ = some (.int .i64 x.f4) := (blk_cell hbox 4).trans rfl; have hq5 : w1.cell? ⟨g, 5, none⟩ = some (.int .i64 x.f5) := (blk_cell hbox 5).trans rfl; have hq6 : w1.cell? ⟨g, 6, none⟩ = some (.string x.f6) := (blk_cell hbox 6).trans rfl; have hq7 : w1.cell? ⟨g, 7, none⟩ = some (.slice A x.f7.length c) := (blk_cell hbox 7).trans rfl; have hlt1 := blk_lt hbox; clear hbox hb hg) | ((with_reducible refine gate_dst (N := 2) rfl ?_); refine box_event ?hg (N := 2) ?hd (cs := #[.int .i64 0, .string (⟨#[]⟩ : ByteArray), .int .i64 0, .int .i64 0, .int .i64 0, .int .i64 0, .string (⟨#[]⟩ : ByteArray), .slice none 0 0]) (t := 24) ?hr ?_; (case hd => rfl); (case hg => rfl); (case hr => first | (go_simp; done) | (go_simp; rfl)); intro g2 hg w2 hbox hb; have HB2 := Aside0.mk (below_step HB1.out hb); have HZ2 := Aside0.mk hbox; have hgW2 := Aside0.mk (show w.heap.size ≤ g2 by rw [hg]; exact HB1.out.size); have hlt2 := blk_lt hbox; have hlt3 := Nat.lt_of_lt_of_le hlt1 hb.size; have hp0 := pw_cell_below hb hq0; have hp1 := pw_cell_below hb hq1; have hp2 := pw_cell_below hb hq2; have hp3 := pw_cell_below hb hq3; have hp4 := pw_cell_below hb hq4; have hp5 := pw_cell_below hb hq5; have hp6 := pw_cell_below hb hq6; have hp7 := pw_cell_below hb hq7; clear hbox hb hg))
 have hI : KInv w (w2.alloc (.cells #[clFn w2.heap.size] 72)) w2.heap.size := ⟨below_alloc HB2.out _, HB2.out.size, blk_new w2 _⟩
 have hcall := Clone1_calls w k x A c 1 z _ _ HC.out Hc.out hI H.out
 dsimp only [clFn] at hcall
 rw [HZS.out] at hcall
 with_reducible refine hcall.mono ?_
 rintro e w4 ⟨u, rfl, hu, hb4⟩
 obtain ⟨Au, cu, hu2⟩ := Kd.R_slice hu
 subst hu2
 have HU := Aside0.mk hu
 have HB4 := Aside0.mk (below_step hI.b hb4)
 have HZ4 := Aside0.mk (blk_below (blk_alloc HZ2.out (.cells #[clFn w2.heap.size] 72)) hb4)
 clear hcall hI hu hb4
 obtain ⟨hz0, hzf0, hz1, hzf1, hz2, hzf2, hz3, hzf3, hz4, hzf4, hz5, hzf5, hz6, hzf6, hz7, hzf7⟩ := cells8 HZ4.out
 go_wp2
 obtain ⟨wf, hwf⟩ : ∃ wf, ((((((((w4.setCell ⟨g2, 0, none⟩ (.int .i64 x.f0)).setCell ⟨g2, 1, none⟩ (.string x.f1)).setCell ⟨g2, 2, none⟩ (.int .i64 x.f2)).setCell ⟨g2, 3, none⟩ (.int .i64 x.f3)).setCell ⟨g2, 4, none⟩ (.int .i64 x.f4)).setCell ⟨g2, 5, none⟩ (.int .i64 x.f5)).setCell ⟨g2, 6, none⟩ (.string x.f6)).setCell ⟨g2, 7, none⟩ (.slice Au zs.length cu)) = wf := ⟨_, rfl⟩
 have hF : wf.heap[g2]? = some (.cells #[.int .i64 x.f0, .string x.f1, .int .i64 x.f2, .int .i64 x.f3, .int .i64 x.f4, .int .i64 x.f5, .string x.f6, .slice Au zs.length cu] 24 (0, 0)) := hwf ▸ (blk_put (blk_put (blk_put (blk_put (blk_put (blk_put (blk_put (blk_put HZ4.out 0 _ rfl) 1 _ rfl) 2 _ rfl) 3 _ rfl) 4 _ rfl) 5 _ rfl) 6 _ rfl) 7 _ rfl)
 have HRf : k24.R 24 wf w.heap.size (fun _ => True) (.slice Au zs.length cu) zs := hwf ▸ Kd.R_mono (Kd.R_lower (Kd.R_far (p := ⟨g2, 7, none⟩) (Kd.R_far (p := ⟨g2, 6, none⟩) (Kd.R_far (p := ⟨g2, 5, none⟩) (Kd.R_far (p := ⟨g2, 4, none⟩) (Kd.R_far (p := ⟨g2, 3, none⟩) (Kd.R_far (p := ⟨g2, 2, none⟩) (Kd.R_far (p := ⟨g2, 1, none⟩) (Kd.R_far (p := ⟨g2, 0, none⟩) (Kd.R_mono (ok' := fun k => k ≠ g2) (Kd.R_bound HU.out) (fun k hk => fun e => by subst e; have h1 := hk.2.1; have h2 := hlt2; simp at h1; omega)) (fun k hk => hk) _) (fun k hk => hk) _) (fun k hk => hk) _) (fun k hk => hk) _) (fun k hk => hk) _) (fun k hk => hk) _) (fun k hk => hk) _) (fun k hk => hk) _) (by have := HB2.out.size; simp; omega)) (fun _ _ => trivial)
 have HBf : Below w.heap.size w wf := hwf ▸ (below_set (below_set (below_set (below_set (below_set (below_set (below_set (below_set HB4.out hgW2.out (j := 0)) hgW2.out (j := 1)) hgW2.out (j := 2)) hgW2.out (j := 3)) hgW2.out (j := 4)) hgW2.out (j := 5)) hgW2.out (j := 6)) hgW2.out (j := 7))
 rw [hwf]
 have hcf0 : wf.cell? ⟨g2, 0, none⟩ = some (.int .i64 x.f0) := (blk_cell hF 0).trans rfl
 have hcf1 : wf.cell? ⟨g2, 1, none⟩ = some (.string x.f1) := (blk_cell hF 1).trans rfl
 have hcf2 : wf.cell? ⟨g2, 2, none⟩ = some (.int .i64 x.f2) := (blk_cell hF 2).trans rfl
 have hcf3 : wf.cell? ⟨g2, 3, none⟩ = some (.int .i64 x.f3) := (blk_cell hF 3).trans rfl
 have hcf4 : wf.cell? ⟨g2, 4, none⟩ = some (.int .i64 x.f4) := (blk_cell hF 4).trans rfl
 have hcf5 : wf.cell? ⟨g2, 5, none⟩ = some (.int .i64 x.f5) := (blk_cell hF 5).trans rfl
 have hcf6 : wf.cell? ⟨g2, 6, none⟩ = some (.string x.f6) := (blk_cell hF 6).trans rfl
 have hcf7 : wf.cell? ⟨g2, 7, none⟩ = some (.slice Au zs.length cu) := (blk_cell hF 7).trans rfl
 refine bodyPost_ret (v := .agg #[.int .i64 x.f0, .string x.f1, .int .i64 x.f2, .int .i64 x.f3, .int .i64 x.f4, .int .i64 x.f5, .string x.f6, .slice Au zs.length cu]) ?_ rfl ⟨.slice Au zs.length cu, rfl, HRf, HBf⟩
 simp [results, Tryz.results74, go_sem, hcf0, hcf1, hcf2, hcf3, hcf4, hcf5, hcf6, hcf7]
end Go.Proofs.YtdkepckkihclgaaGreatDoor.PNodeChecks
namespace Go.Proofs.YtdkepckkihclgaaGreatDoor.PNodeChecks
open Go.RowKit Go.Proofs.YtdkepckkihclgaaGreatDoorW.PrintWords Go.Proofs.YtdkepckkihclgaaGreatDoorW.PrintLast Go.Proofs.YtdkepckkihclgaaGreatDoorW.PrintMore
set_option linter.unusedVariables false
set_option linter.unusedSimpArgs false
def ofL : Nat → List S24 → Int → Int → List S24 → Option (List S24)
 | 0, _, _, _, _ => none
 | k + 1, l, kd, i, ys => if i < (l.length : Int) then (if 0 ≤ i then (if (rd_T24 l i).f0 = kd then (if ys.length < 1466015503000 then ((clF k (rd_T24 l i) 1).bind fun z => ofL k l kd (wrap64 (i + 1)) (ys ++ [z])) else none) else ofL k l kd (wrap64 (i + 1)) ys) else none) else some ys
def OfPost (zs : List S24) (w : World) (e : Ending) (w' : World) : Prop := ∃ u, e = .returned u ∧ k24.R 24 w' w.heap.size (fun _ => True) u zs ∧ Below w.heap.size w w'
set_option maxHeartbeats 16000000 in
set_option maxRecDepth 100000 in
theorem Of_calls (k : Nat) (x : S24) (kd : Int) (A : Option Addr) (c : Nat) (zs : List S24) (w : World) (hC : Kd.C k24 w A x.f7.length x.f7) (hc : x.f7.length ≤ c) (h : ofL k x.f7 kd 0 [] = some zs) :
  Calls Tryz.prog 41 #[.agg #[.int .i64 x.f0, .string x.f1, .int .i64 x.f2, .int .i64 x.f3, .int .i64 x.f4, .int .i64 x.f5, .string x.f6, .slice A x.f7.length c], .int .i64 kd] w (OfPost zs w) := by
 have HC := Aside0.mk hC
 have Hc := Aside0.mk hc
 have H := Aside0.mk h
 clear hC hc h
 go_enter Tryz.func41, Tryz.ntmps41
 go_wp2_with (first | ((with_reducible refine gate_dst (N := 2) rfl ?_); refine box_event ?hg (N := 2) ?hd (cs := #[.int .i64 x.f0, .string x.f1, .int .i64 x.f2, .int .i64 x.f3, .int .i64 x.f4, .int .i64 x.f5, .string x.f6, .slice A x.f7.length c]) (t := 24) ?hr ?_; (case hd => rfl); (case hg => rfl); (case hr => first | (go_simp; done) | (go_simp; rfl)); intro g hg w1 hbox hb; have HB1 := Aside0.mk hb; obtain ⟨hq0, hqf0, hq1, hqf1, hq2, hqf2, hq3, hqf3, hq4, hqf4, hq5, hqf5, hq6, hqf6, hq7, hqf7⟩ := cells8 hbox; clear hbox hb hg))
 go_loopg [11, 5] k (fun kq v11 v5 w' => ∃ (i : Int) (v : Value) (ys : List S24), v11 = .int .i64 i ∧ v = v5 ∧ Aside0 (ofL kq x.f7 kd i ys = some zs) ∧ Aside0 (kq ≤ k) ∧ Aside0 (Below w.heap.size w w') ∧ Aside0 (k24.R 24 w' w.heap.size (fun _ => True) v ys))
 case atStart => exact ⟨0, _, [], rfl, rfl, H, ⟨Nat.le_refl _⟩, HB1, ⟨Kd.R_nil _ _ _ _ _⟩⟩
 case round =>
  clear H HB1 hq0 hqf0 hq1 hqf1 hq2 hqf2 hq3 hqf3 hq4 hqf4 hq5 hqf5 hq6 hqf6 hq7 hqf7
  obtain ⟨i, v, ys, rfl, rfl, HA, HK, HBr, HRr⟩ := hrel
  cases gk with
  | zero => exact absurd HA.out (by simp [ofL])
  | succ k1 =>
   have H := HA.out
   clear HA
   simp only [ofL] at H
   by_cases c7 : i < (x.f7.length : Int)
   ·rw [if_pos c7] at H
    by_cases c8 : 0 ≤ i
    ·rw [if_pos c8] at H
     obtain ⟨ad, A7, c77, e, hx0, hx1, hx2, hx3, hx4, hx5, hx6, hx7, hl7, hi7⟩ := at_T24 HC.out i c8 c7
     cases e
     replace hx0 := (HBr.out.cell (World.block_lt_of_cell? w _ hx0)).trans hx0
     replace hx1 := (HBr.out.cell (World.block_lt_of_cell? w _ hx1)).trans hx1
     replace hx2 := (HBr.out.cell (World.block_lt_of_cell? w _ hx2)).trans hx2
     replace hx3 := (HBr.out.cell (World.block_lt_of_cell? w _ hx3)).trans hx3
     replace hx4 := (HBr.out.cell (World.block_lt_of_cell? w _ hx4)).trans hx4
     replace hx5 := (HBr.out.cell (World.block_lt_of_cell? w _ hx5)).trans hx5
     replace hx6 := (HBr.out.cell (World.block_lt_of_cell? w _ hx6)).trans hx6
     replace hx7 := (HBr.out.cell (World.block_lt_of_cell? w _ hx7)).trans hx7
     have HY := Aside0.mk hi7
     have HY7 := Aside0.mk hl7
     clear hi7 hl7
     have c7b := decide_eq_true c7
     have c8b := decide_eq_true c8
     replace c7 := eq_true c7
     replace c8 := eq_true c8
     obtain ⟨y, hy⟩ : ∃ y, rd_T24 x.f7 i = y := ⟨_, rfl⟩
     rw [hy] at H HY HY7 hx0 hx1 hx2 hx3 hx4 hx5 hx6 hx7
     clear hy
     by_cases c9 : y.f0 = kd
     ·rw [if_pos c9] at H
      have c9b : (y.f0 == kd) = true := by simpa using c9
      have c9d : decide (y.f0 = kd) = true := by simpa using c9
      clear c9
      by_cases c10 : ys.length < 1466015503000
      ·rw [if_pos c10] at H
       have LM := Aside0.mk c10
       clear c10
       replace H := Option.bind_eq_some_iff.mp H
       obtain ⟨z1, A1, H⟩ := H
       have A1 := Aside0.mk A1
       have H := Aside0.mk H
       go_upto_region 6 with (first | ((with_reducible refine gate_dst (N := 7) rfl ?_); refine box_event ?hg (N := 7) ?hd (cs := #[.int .i64 0, .string (⟨#[]⟩ : ByteArray), .int .i64 0, .int .i64 0, .int .i64 0, .int .i64 0, .string (⟨#[]⟩ : ByteArray), .slice none 0 0]) (t := 24) ?hr ?_; (case hd => rfl); (case hg => rfl); (case hr => first | (go_simp; done) | (go_simp; rfl)); intro g2 hg w3 hbox hb; have HB3 := Aside0.mk (below_step HBr.out hb); have HR3 := Aside0.mk (Kd.R_mono (ok' := fun k => True ∧ k ≠ g2) (Kd.R_below (Kd.R_mono (Kd.R_bound HRr.out) (fun k hk => (⟨trivial, by rw [hg]; exact Nat.ne_of_lt hk.2.2.1⟩ : True ∧ k ≠ g2))) hb) (fun _ hk => hk)); have HKB := Aside0.mk hbox; have hgW2 := Aside0.mk (show w.heap.size ≤ g2 by rw [hg]; exact HBr.out.size); obtain ⟨hz0, hzf0, hz1, hzf1, hz2, hzf2, hz3, hzf3, hz4, hzf4, hz5, hzf5, hz6, hzf6, hz7, hzf7⟩ := cells8 hbox; clear hbox hb hg))
       obtain ⟨wq, hwq⟩ : ∃ wq, ((((((((w3.setCell ⟨g2, 0, none⟩ (.int .i64 y.f0)).setCell ⟨g2, 1, none⟩ (.string y.f1)).setCell ⟨g2, 2, none⟩ (.int .i64 y.f2)).setCell ⟨g2, 3, none⟩ (.int .i64 y.f3)).setCell ⟨g2, 4, none⟩ (.int .i64 y.f4)).setCell ⟨g2, 5, none⟩ (.int .i64 y.f5)).setCell ⟨g2, 6, none⟩ (.string y.f6)).setCell ⟨g2, 7, none⟩ (.slice A7 y.f7.length c77)) = wq := ⟨_, rfl⟩
       have HBq : Aside0 (Below w.heap.size w wq) := ⟨hwq ▸ (below_set (below_set (below_set (below_set (below_set (below_set (below_set (below_set HB3.out hgW2.out (j := 0)) hgW2.out (j := 1)) hgW2.out (j := 2)) hgW2.out (j := 3)) hgW2.out (j := 4)) hgW2.out (j := 5)) hgW2.out (j := 6)) hgW2.out (j := 7))⟩
       have HRq : Aside0 (k24.R 24 wq w.heap.size (fun _ => True) v ys) := ⟨hwq ▸ Kd.R_mono (Kd.R_far (p := ⟨g2, 7, none⟩) (Kd.R_far (p := ⟨g2, 6, none⟩) (Kd.R_far (p := ⟨g2, 5, none⟩) (Kd.R_far (p := ⟨g2, 4, none⟩) (Kd.R_far (p := ⟨g2, 3, none⟩) (Kd.R_far (p := ⟨g2, 2, none⟩) (Kd.R_far (p := ⟨g2, 1, none⟩) (Kd.R_far (p := ⟨g2, 0, none⟩) HR3.out (fun k hk => hk.2) _) (fun k hk => hk.2) _) (fun k hk => hk.2) _) (fun k hk => hk.2) _) (fun k hk => hk.2) _) (fun k hk => hk.2) _) (fun k hk => hk.2) _) (fun k hk => hk.2) _) (fun _ _ => trivial)⟩
       have HKq : Aside0 (wq.heap[g2]? = some (.cells #[.int .i64 y.f0, .string y.f1, .int .i64 y.f2, .int .i64 y.f3, .int .i64 y.f4, .int .i64 y.f5, .string y.f6, .slice A7 y.f7.length c77] 24 (0, 0))) := ⟨hwq ▸ (blk_put (blk_put (blk_put (blk_put (blk_put (blk_put (blk_put (blk_put HKB.out 0 _ rfl) 1 _ rfl) 2 _ rfl) 3 _ rfl) 4 _ rfl) 5 _ rfl) 6 _ rfl) 7 _ rfl)⟩
       have hk0 : wq.cell? ⟨g2, 0, none⟩ = some (.int .i64 y.f0) := (blk_cell HKq.out 0).trans rfl
       have hk1 : wq.cell? ⟨g2, 1, none⟩ = some (.string y.f1) := (blk_cell HKq.out 1).trans rfl
       have hk2 : wq.cell? ⟨g2, 2, none⟩ = some (.int .i64 y.f2) := (blk_cell HKq.out 2).trans rfl
       have hk3 : wq.cell? ⟨g2, 3, none⟩ = some (.int .i64 y.f3) := (blk_cell HKq.out 3).trans rfl
       have hk4 : wq.cell? ⟨g2, 4, none⟩ = some (.int .i64 y.f4) := (blk_cell HKq.out 4).trans rfl
       have hk5 : wq.cell? ⟨g2, 5, none⟩ = some (.int .i64 y.f5) := (blk_cell HKq.out 5).trans rfl
       have hk6 : wq.cell? ⟨g2, 6, none⟩ = some (.string y.f6) := (blk_cell HKq.out 6).trans rfl
       have hk7 : wq.cell? ⟨g2, 7, none⟩ = some (.slice A7 y.f7.length c77) := (blk_cell HKq.out 7).trans rfl
       rw [hwq]
       clear hwq HBr HRr HB3 HR3 HKB hz0 hzf0 hz1 hzf1 hz2 hzf2 hz3 hzf3 hz4 hzf4 hz5 hzf5 hz6 hzf6 hz7 hzf7
       go_wp2_with (fail)
       with_reducible refine (Clone_calls k1 y A7 c77 z1 wq (Kd.C_below HY.out HBq.out) HY7.out A1.out).mono ?_
       rintro e w4 ⟨u, rfl, hu, hbb⟩
       have HU := Aside0.mk hu
       have HB4 := Aside0.mk (below_step HBq.out hbb)
       have HR4 := Aside0.mk (Kd.R_below HRq.out hbb)
       clear hu hbb
       go_wp2_with ((with_reducible refine gate_builtin (b := .append) (xs := #[.tmp 19, .tmp 22]) rfl ?_); at_builtin; refine Kd.R_append k24 (w0 := w) w.heap.size rfl (.tmp 19) (.tmp 22) 22 24 _ 96 rfl Tryz.underlying22 info24 rfl (by decide) (by decide) v ys ⟨y.f0, y.f1, y.f2, y.f3, y.f4, y.f5, y.f6, z1.f7⟩ [.int .i64 y.f0, .string y.f1, .int .i64 y.f2, .int .i64 y.f3, .int .i64 y.f4, .int .i64 y.f5, .string y.f6, u] (fun _ => True) (fun k => wq.heap.size ≤ k) rfl rfl ?aP ?aN ?aF ?aO ?aB ?aS ?aL ?_; (case aP => exact clone_part HU.out HBq.out.size); (case aB => exact HB4.out); (case aF => exact (fun _ _ => trivial)); (case aN => exact (fun k hk => ⟨trivial, fun e => absurd (own_lt_R HRq.out k e.symm) (Nat.not_lt.mpr hk)⟩)); (case aO => exact HR4.out); (case aS => exact HB4.out.size); (case aL => have := LM.out; omega); intro v1 w5 ho hb hg hat; have HO5 := Aside0.mk ho; have HB5 := Aside0.mk hb; clear ho hb hg hat)
       go_roundg k1
       case measure => have := HK.out; omega
       case rel => exact ⟨wrap64 (i + 1), _, ys ++ [⟨y.f0, y.f1, y.f2, y.f3, y.f4, y.f5, y.f6, z1.f7⟩], rfl, rfl, ⟨by rw [clF_shape _ _ _ _ A1.out]; exact H.out⟩, ⟨by have := HK.out; omega⟩, HB5, HO5⟩
      ·rw [if_neg c10] at H
       exact absurd H (by simp)
     ·rw [if_neg c9] at H
      have c9b : (y.f0 == kd) = false := by simpa using c9
      have c9d : decide (y.f0 = kd) = false := by simpa using c9
      clear c9
      have H := Aside0.mk H
      go_wp2_with (first | ((with_reducible refine gate_dst (N := 7) rfl ?_); refine box_event ?hg (N := 7) ?hd (cs := #[.int .i64 0, .string (⟨#[]⟩ : ByteArray), .int .i64 0, .int .i64 0, .int .i64 0, .int .i64 0, .string (⟨#[]⟩ : ByteArray), .slice none 0 0]) (t := 24) ?hr ?_; (case hd => rfl); (case hg => rfl); (case hr => first | (go_simp; done) | (go_simp; rfl)); intro g2 hg w3 hbox hb; have HB3 := Aside0.mk (below_step HBr.out hb); have HR3 := Aside0.mk (Kd.R_mono (ok' := fun k => True ∧ k ≠ g2) (Kd.R_below (Kd.R_mono (Kd.R_bound HRr.out) (fun k hk => (⟨trivial, by rw [hg]; exact Nat.ne_of_lt hk.2.2.1⟩ : True ∧ k ≠ g2))) hb) (fun _ hk => hk)); have HKB := Aside0.mk hbox; have hgW2 := Aside0.mk (show w.heap.size ≤ g2 by rw [hg]; exact HBr.out.size); obtain ⟨hz0, hzf0, hz1, hzf1, hz2, hzf2, hz3, hzf3, hz4, hzf4, hz5, hzf5, hz6, hzf6, hz7, hzf7⟩ := cells8 hbox; clear hbox hb hg))
      go_roundg k1
      case measure => have := HK.out; omega
      case rel => exact ⟨wrap64 (i + 1), _, ys, rfl, rfl, H, ⟨by have := HK.out; omega⟩, ⟨(below_set (below_set (below_set (below_set (below_set (below_set (below_set (below_set HB3.out hgW2.out (j := 0)) hgW2.out (j := 1)) hgW2.out (j := 2)) hgW2.out (j := 3)) hgW2.out (j := 4)) hgW2.out (j := 5)) hgW2.out (j := 6)) hgW2.out (j := 7))⟩, ⟨Kd.R_mono (Kd.R_far (p := ⟨g2, 7, none⟩) (Kd.R_far (p := ⟨g2, 6, none⟩) (Kd.R_far (p := ⟨g2, 5, none⟩) (Kd.R_far (p := ⟨g2, 4, none⟩) (Kd.R_far (p := ⟨g2, 3, none⟩) (Kd.R_far (p := ⟨g2, 2, none⟩) (Kd.R_far (p := ⟨g2, 1, none⟩) (Kd.R_far (p := ⟨g2, 0, none⟩) HR3.out (fun k hk => hk.2) _) (fun k hk => hk.2) _) (fun k hk => hk.2) _) (fun k hk => hk.2) _) (fun k hk => hk.2) _) (fun k hk => hk.2) _) (fun k hk => hk.2) _) (fun k hk => hk.2) _) (fun _ _ => trivial)⟩⟩
    ·rw [if_neg c8] at H
     exact absurd H (by simp)
   ·rw [if_neg c7] at H
    obtain rfl := Option.some.inj H
    have c7b := decide_eq_false c7
    clear c7
    go_wp2
    go_ret
    exact ⟨v, rfl, HRr.out, HBr.out⟩
end Go.Proofs.YtdkepckkihclgaaGreatDoor.PNodeChecks

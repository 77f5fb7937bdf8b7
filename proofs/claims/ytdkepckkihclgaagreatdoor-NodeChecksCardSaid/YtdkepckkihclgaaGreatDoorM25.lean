import Derived.Test.YtdkepckkihclgaaGreatDoorM24
import Derived.Laws.EntriesVeiled
namespace Go.Proofs.YtdkepckkihclgaaGreatDoor.PNodeChecks
open Go.RowKit Go.Proofs.YtdkepckkihclgaaGreatDoorW.PrintWords Go.Proofs.YtdkepckkihclgaaGreatDoorW.PrintLast Go.Proofs.YtdkepckkihclgaaGreatDoorW.PrintMore
attribute [local go_sem] max2_int min2_int max_two min_two   -- for this text's walks alone
set_option linter.unusedVariables false
set_option linter.unusedSimpArgs false
mutual
def dpF : Nat → List S24 → Int → Option Int
 | 0, _, _ => none
 | k + 1, l, a => dpL k l a 0 a
def dpL : Nat → List S24 → Int → Int → Int → Option Int
 | 0, _, _, _, _ => none
 | k + 1, l, a, i, d => if i < (l.length : Int) then (if 0 ≤ i then (if d > 64 then some d else (dpF k (rd_T24 l i).f7 (wrap64 (a + 1))).bind fun t => dpL k l a (wrap64 (i + 1)) (if d < t then t else d)) else none) else some d
end
def dFn (bD : Nat) : Value := .func (.func 16) #[] #[.pointer (some ⟨bD, 0, none⟩)]
structure DInv (w0 W : World) (bD : Nat) : Prop where
 b : Below w0.heap.size w0 W
 gD : w0.heap.size ≤ bD
 D : W.heap[bD]? = some (.cells #[dFn bD] 30 (0, 0))
theorem DInv.step {w0 W W' : World} {bD : Nat} (h : DInv w0 W bD) (hb : Below W.heap.size W W') : DInv w0 W' bD :=
 ⟨below_step h.b hb, h.gD, blk_below h.D hb⟩
theorem DInv.other {w0 W : World} {bD : Nat} (h : DInv w0 W bD) {g : Nat} (hD : bD ≠ g) (hg : w0.heap.size ≤ g) (j : Nat) (x : Value) : DInv w0 (W.setCell ⟨g, j, none⟩ x) bD :=
 ⟨below_set h.b hg, h.gD, blk_far h.D hD _⟩
set_option maxHeartbeats 8000000 in
set_option maxRecDepth 100000 in
theorem Deep1_calls (w0 : World) (k : Nat) : ∀ (x : S24) (A : Option Addr) (c : Nat) (a r : Int) (W : World) (bD : Nat), Kd.C k24 w0 A x.f7.length x.f7 → x.f7.length ≤ c → DInv w0 W bD → dpF k x.f7 a = some r →
  Calls Tryz.prog 16 #[.agg #[.int .i64 x.f0, .string x.f1, .int .i64 x.f2, .int .i64 x.f3, .int .i64 x.f4, .int .i64 x.f5, .string x.f6, .slice A x.f7.length c], .int .i64 a, .pointer (some ⟨bD, 0, none⟩)] W fun e W' => e = .returned (.int .i64 r) ∧ Below W.heap.size W W' := by
 induction k using Nat.strongRecOn with
 | _ k ih =>
 intro x A c a r W bD hC hc hI h
 cases k with
 | zero => exact absurd h (by simp [dpF])
 | succ k =>
 simp only [dpF] at h
 have HC := Aside0.mk hC
 have HI := Aside0.mk hI
 have Hc := Aside0.mk hc
 have H := Aside0.mk h
 clear hC hc h hI
 go_enter Tryz.func16, Tryz.ntmps16
 go_wp2_with (first | ((with_reducible refine gate_dst (N := 3) rfl ?_); refine box_event ?hg (N := 3) ?hd (cs := #[.int .i64 x.f0, .string x.f1, .int .i64 x.f2, .int .i64 x.f3, .int .i64 x.f4, .int .i64 x.f5, .string x.f6, .slice A x.f7.length c]) (t := 24) ?hr ?_; (case hd => rfl); (case hg => rfl); (case hr => first | (go_simp; done) | (go_simp; rfl)); intro g hg w1 hbox hb; have HI1 := Aside0.mk (HI.out.step hb); have HB1 := Aside0.mk hb; have hD1 : w1.cell? ⟨bD, 0, none⟩ = some (dFn bD) := (blk_cell HI1.out.D 0).trans rfl; have hk7 : w1.cell? ⟨g, 7, none⟩ = some (.slice A x.f7.length c) := (blk_cell hbox 7).trans rfl; clear hbox hb hg))
 go_loopg [6, 13] k (fun kq v6 v13 w' => ∃ (i d : Int), v6 = .int .i64 d ∧ v13 = .int .i64 i ∧ Aside0 (dpL kq x.f7 a i d = some r) ∧ Aside0 (kq ≤ k) ∧ Aside0 (DInv w0 w' bD) ∧ Aside0 (Below W.heap.size W w'))
 case atStart => exact ⟨0, _, rfl, rfl, H, ⟨Nat.le_refl _⟩, HI1, HB1⟩
 case round =>
  clear H HI1 hk7 HB1 hD1
  obtain ⟨i, d, rfl, rfl, HA, HK, HI1, HB1⟩ := hrel
  cases gk with
  | zero => exact absurd HA.out (by simp [dpL])
  | succ k1 =>
   have H := HA.out
   clear HA
   simp only [dpL] at H
   by_cases c7 : i < (x.f7.length : Int)
   ·rw [if_pos c7] at H
    by_cases c8 : 0 ≤ i
    ·rw [if_pos c8] at H
     obtain ⟨ad, A7, c77, e, hx0, hx1, hx2, hx3, hx4, hx5, hx6, hx7, hl7, hi7⟩ := at_T24 HC.out i c8 c7
     cases e
     have HB := HI1.out.b
     replace hx0 := (HB.cell (World.block_lt_of_cell? w0 _ hx0)).trans hx0
     replace hx1 := (HB.cell (World.block_lt_of_cell? w0 _ hx1)).trans hx1
     replace hx2 := (HB.cell (World.block_lt_of_cell? w0 _ hx2)).trans hx2
     replace hx3 := (HB.cell (World.block_lt_of_cell? w0 _ hx3)).trans hx3
     replace hx4 := (HB.cell (World.block_lt_of_cell? w0 _ hx4)).trans hx4
     replace hx5 := (HB.cell (World.block_lt_of_cell? w0 _ hx5)).trans hx5
     replace hx6 := (HB.cell (World.block_lt_of_cell? w0 _ hx6)).trans hx6
     replace hx7 := (HB.cell (World.block_lt_of_cell? w0 _ hx7)).trans hx7
     have HR7 := Aside0.mk hi7
     have HC7 := Aside0.mk hl7
     clear hi7 hl7 HB
     have c7b := decide_eq_true c7
     have c8b := decide_eq_true c8
     replace c7 := eq_true c7
     replace c8 := eq_true c8
     by_cases c9 : d > 64
     ·rw [if_pos c9] at H
      obtain rfl := Option.some.inj H
      have c9b : decide (64 < d) = true := decide_eq_true c9
      clear c9 H
      go_wp2_with (first | ((with_reducible refine gate_dst (N := 8) rfl ?_); refine box_event ?hg (N := 8) ?hd (cs := #[.int .i64 0, .string (⟨#[]⟩ : ByteArray), .int .i64 0, .int .i64 0, .int .i64 0, .int .i64 0, .string (⟨#[]⟩ : ByteArray), .slice none 0 0]) (t := 24) ?hr ?_; (case hd => rfl); (case hg => rfl); (case hr => first | (go_simp; done) | (go_simp; rfl)); intro g2 hg w2 hbox hb; have HI2 := Aside0.mk (HI1.out.step hb); have HB2 := Aside0.mk (below_step HB1.out hb); have hz0 : w2.cell? ⟨g2, 0, none⟩ = some (.int .i64 0) := (blk_cell hbox 0).trans rfl; have hf0 := blk_frozen hbox 0 ; have hz1 : w2.cell? ⟨g2, 1, none⟩ = some (.string (⟨#[]⟩ : ByteArray)) := (blk_cell hbox 1).trans rfl; have hf1 := blk_frozen hbox 1 ; have hz2 : w2.cell? ⟨g2, 2, none⟩ = some (.int .i64 0) := (blk_cell hbox 2).trans rfl; have hf2 := blk_frozen hbox 2 ; have hz3 : w2.cell? ⟨g2, 3, none⟩ = some (.int .i64 0) := (blk_cell hbox 3).trans rfl; have hf3 := blk_frozen hbox 3 ; have hz4 : w2.cell? ⟨g2, 4, none⟩ = some (.int .i64 0) := (blk_cell hbox 4).trans rfl; have hf4 := blk_frozen hbox 4 ; have hz5 : w2.cell? ⟨g2, 5, none⟩ = some (.int .i64 0) := (blk_cell hbox 5).trans rfl; have hf5 := blk_frozen hbox 5 ; have hz6 : w2.cell? ⟨g2, 6, none⟩ = some (.string (⟨#[]⟩ : ByteArray)) := (blk_cell hbox 6).trans rfl; have hf6 := blk_frozen hbox 6 ; have hz7 : w2.cell? ⟨g2, 7, none⟩ = some (.slice none 0 0) := (blk_cell hbox 7).trans rfl; have hf7 := blk_frozen hbox 7; have GE := Aside0.mk ((by rw [hg]; exact HI1.out.b.size) : w0.heap.size ≤ g2); have GW := Aside0.mk ((by rw [hg]; exact HB1.out.size) : W.heap.size ≤ g2); have hND : bD ≠ g2 := (fun h => by subst h; exact absurd (blk_lt HI1.out.D) (by omega)); have hND' := hND.symm; have hD : w2.cell? ⟨bD, 0, none⟩ = some (dFn bD) := (blk_cell HI2.out.D 0).trans rfl; unfold dFn at hD; clear hbox hb hg))
      refine bodyPost_ret (results_tmp rfl _ _ _) rfl ?_
      exact ⟨rfl, (below_set (below_set (below_set (below_set (below_set (below_set (below_set (below_set HB2.out GW.out (j := 0)) GW.out (j := 1)) GW.out (j := 2)) GW.out (j := 3)) GW.out (j := 4)) GW.out (j := 5)) GW.out (j := 6)) GW.out (j := 7))⟩
     ·rw [if_neg c9] at H
      have c9b : decide (64 < d) = false := decide_eq_false c9
      clear c9
      replace H := Option.bind_eq_some_iff.mp H
      obtain ⟨t1, A1, H⟩ := H
      have A1 := Aside0.mk A1
      obtain ⟨dm, hdm⟩ : ∃ dm : Int, (if d < t1 then t1 else d) = dm := ⟨_, rfl⟩
      rw [hdm] at H
      have H := Aside0.mk H
      go_wp2_with (first | ((with_reducible refine gate_dst (N := 8) rfl ?_); refine box_event ?hg (N := 8) ?hd (cs := #[.int .i64 0, .string (⟨#[]⟩ : ByteArray), .int .i64 0, .int .i64 0, .int .i64 0, .int .i64 0, .string (⟨#[]⟩ : ByteArray), .slice none 0 0]) (t := 24) ?hr ?_; (case hd => rfl); (case hg => rfl); (case hr => first | (go_simp; done) | (go_simp; rfl)); intro g2 hg w2 hbox hb; have HI2 := Aside0.mk (HI1.out.step hb); have HB2 := Aside0.mk (below_step HB1.out hb); have hz0 : w2.cell? ⟨g2, 0, none⟩ = some (.int .i64 0) := (blk_cell hbox 0).trans rfl; have hf0 := blk_frozen hbox 0 ; have hz1 : w2.cell? ⟨g2, 1, none⟩ = some (.string (⟨#[]⟩ : ByteArray)) := (blk_cell hbox 1).trans rfl; have hf1 := blk_frozen hbox 1 ; have hz2 : w2.cell? ⟨g2, 2, none⟩ = some (.int .i64 0) := (blk_cell hbox 2).trans rfl; have hf2 := blk_frozen hbox 2 ; have hz3 : w2.cell? ⟨g2, 3, none⟩ = some (.int .i64 0) := (blk_cell hbox 3).trans rfl; have hf3 := blk_frozen hbox 3 ; have hz4 : w2.cell? ⟨g2, 4, none⟩ = some (.int .i64 0) := (blk_cell hbox 4).trans rfl; have hf4 := blk_frozen hbox 4 ; have hz5 : w2.cell? ⟨g2, 5, none⟩ = some (.int .i64 0) := (blk_cell hbox 5).trans rfl; have hf5 := blk_frozen hbox 5 ; have hz6 : w2.cell? ⟨g2, 6, none⟩ = some (.string (⟨#[]⟩ : ByteArray)) := (blk_cell hbox 6).trans rfl; have hf6 := blk_frozen hbox 6 ; have hz7 : w2.cell? ⟨g2, 7, none⟩ = some (.slice none 0 0) := (blk_cell hbox 7).trans rfl; have hf7 := blk_frozen hbox 7; have GE := Aside0.mk ((by rw [hg]; exact HI1.out.b.size) : w0.heap.size ≤ g2); have GW := Aside0.mk ((by rw [hg]; exact HB1.out.size) : W.heap.size ≤ g2); have hND : bD ≠ g2 := (fun h => by subst h; exact absurd (blk_lt HI1.out.D) (by omega)); have hND' := hND.symm; have hD : w2.cell? ⟨bD, 0, none⟩ = some (dFn bD) := (blk_cell HI2.out.D 0).trans rfl; unfold dFn at hD; clear hbox hb hg))
      with_reducible refine (ih k1 (by have := HK.out; omega) (rd_T24 x.f7 i) A7 c77 (wrap64 (a + 1)) t1 _ bD HR7.out HC7.out ?side A1.out).mono ?_
      case side => exact ((((((((HI2.out.other hND GE.out 0 _).other hND GE.out 1 _).other hND GE.out 2 _).other hND GE.out 3 _).other hND GE.out 4 _).other hND GE.out 5 _).other hND GE.out 6 _).other hND GE.out 7 _)
      rintro e w3 ⟨rfl, hb3⟩
      have HI3 := Aside0.mk (((((((((HI2.out.other hND GE.out 0 _).other hND GE.out 1 _).other hND GE.out 2 _).other hND GE.out 3 _).other hND GE.out 4 _).other hND GE.out 5 _).other hND GE.out 6 _).other hND GE.out 7 _).step hb3)
      have HB3 := Aside0.mk (below_step (below_set (below_set (below_set (below_set (below_set (below_set (below_set (below_set HB2.out GW.out (j := 0)) GW.out (j := 1)) GW.out (j := 2)) GW.out (j := 3)) GW.out (j := 4)) GW.out (j := 5)) GW.out (j := 6)) GW.out (j := 7)) hb3)
      clear hb3
      go_wp2
      go_roundg k1
      case measure => have := HK.out; omega
      case rel => exact ⟨wrap64 (i + 1), dm, rfl, rfl, H, ⟨by have := HK.out; omega⟩, HI3, HB3⟩
    ·rw [if_neg c8] at H
     exact absurd H (by simp)
   ·rw [if_neg c7] at H
    obtain rfl := Option.some.inj H
    have c7b := decide_eq_false c7
    clear c7
    go_wp2
    refine bodyPost_ret (results_tmp rfl _ _ _) rfl ?_
    exact ⟨rfl, HB1.out⟩
def node_Deep.f (k : Nat) (a0_0 : Int) (a0_1 : ByteArray) (a0_2 : Int) (a0_3 : Int) (a0_4 : Int) (a0_5 : Int) (a0_6 : ByteArray) (l0_7 : List (S24)) : Option (Int) := (dpF k l0_7 1).bind fun t => if t ≤ 64 then some t else some 100
set_option maxHeartbeats 8000000 in
set_option maxRecDepth 100000 in
theorem node_Deep.calls (k : Nat) (a0_0 : Int) (a0_1 : ByteArray) (a0_2 : Int) (a0_3 : Int) (a0_4 : Int) (a0_5 : Int) (a0_6 : ByteArray) (A0_7 : Option Addr) (c0_7 : Nat) (l0_7 : List (S24)) (r : Int) (w : World) (hr0_7 : Kd.C k24 w A0_7 l0_7.length l0_7) (hc0_7 : l0_7.length ≤ c0_7) (h : node_Deep.f k a0_0 a0_1 a0_2 a0_3 a0_4 a0_5 a0_6 l0_7 = some r) :
  Calls Tryz.prog 9 #[.agg #[.int .i64 a0_0, .string a0_1, .int .i64 a0_2, .int .i64 a0_3, .int .i64 a0_4, .int .i64 a0_5, .string a0_6, .slice A0_7 l0_7.length c0_7]] w fun e w' => e = .returned (.int .i64 r) ∧ Below w.heap.size w w' := by
 obtain ⟨t, A1, H⟩ := Option.bind_eq_some_iff.mp h
 have HR := Aside0.mk hr0_7
 have HC := Aside0.mk hc0_7
 have A1 := Aside0.mk A1
 have HB := Aside0.mk (Below.refl w.heap.size w)
 clear h hr0_7 hc0_7
 by_cases c1 : t ≤ 64
 all_goals
  (first | rw [if_pos c1] at H | rw [if_neg c1] at H)
  obtain rfl := Option.some.inj H
  (first | have c1b : decide (t ≤ 64) = true := decide_eq_true c1 | have c1b : decide (t ≤ 64) = false := decide_eq_false c1)
  clear c1 H
  go_enter Tryz.func9, Tryz.ntmps9
  go_wp2_with (first | ((with_reducible refine gate_dst (N := 1) rfl ?_); refine box_event ?hg (N := 1) ?hd (cs := #[.int .i64 a0_0, .string a0_1, .int .i64 a0_2, .int .i64 a0_3, .int .i64 a0_4, .int .i64 a0_5, .string a0_6, .slice A0_7 l0_7.length c0_7]) (t := 24) ?hr ?_; (case hd => rfl); (case hg => rfl); (case hr => first | (go_simp; done) | (go_simp; rfl)); intro g hg w1 hbox hb; have HB1 := Aside0.mk (below_step HB.out hb); have hq0 : w1.cell? ⟨g, 0, none⟩ = some (.int .i64 a0_0) := (blk_cell hbox 0).trans rfl; have hq1 : w1.cell? ⟨g, 1, none⟩ = some (.string a0_1) := (blk_cell hbox 1).trans rfl; have hq2 : w1.cell? ⟨g, 2, none⟩ = some (.int .i64 a0_2) := (blk_cell hbox 2).trans rfl; have hq3 : w1.cell? ⟨g, 3, none⟩ = some (.int .i64 a0_3) := (blk_cell hbox 3).trans rfl; have hq4 : w1.cell? ⟨g, 4, none⟩ = some (.int .i64 a0_4) := (blk_cell hbox 4).trans rfl; have hq5 : w1.cell? ⟨g, 5, none⟩ = some (.int .i64 a0_5) := (blk_cell hbox 5).trans rfl; have hq6 : w1.cell? ⟨g, 6, none⟩ = some (.string a0_6) := (blk_cell hbox 6).trans rfl; have hq7 : w1.cell? ⟨g, 7, none⟩ = some (.slice A0_7 l0_7.length c0_7) := (blk_cell hbox 7).trans rfl; have hlt := blk_lt hbox; clear hbox hb hg))
  have hI : DInv w (w1.alloc (Obj.cells #[dFn w1.heap.size] 30)) w1.heap.size := ⟨below_alloc HB1.out _, HB1.out.size, blk_new w1 _⟩
  have hcall := Deep1_calls w k ⟨a0_0, a0_1, a0_2, a0_3, a0_4, a0_5, a0_6, l0_7⟩ A0_7 c0_7 1 t _ _ HR.out HC.out hI A1.out
  dsimp only [dFn] at hcall
  with_reducible refine hcall.mono ?_
  rintro e w3 ⟨rfl, hb3⟩
  have HB3 := Aside0.mk (below_step hI.b hb3)
  clear hcall hI hb3
  go_wp2
  refine bodyPost_ret (results_tmp rfl _ _ _) rfl ?_
  exact ⟨rfl, HB3.out⟩
end Go.Proofs.YtdkepckkihclgaaGreatDoor.PNodeChecks
namespace Go.Proofs.YtdkepckkihclgaaGreatDoor.PNodeChecks
open Go.RowKit Go.Proofs.YtdkepckkihclgaaGreatDoorW.PrintWords Go.Proofs.YtdkepckkihclgaaGreatDoorW.PrintLast Go.Proofs.YtdkepckkihclgaaGreatDoorW.PrintMore
set_option linter.unusedVariables false
set_option linter.unusedSimpArgs false
def checkF (k : Nat) (x : S24) : Option Bool :=
 if x.f0 = 1 then ((node_Count.f k x.f0 x.f1 x.f2 x.f3 x.f4 x.f5 x.f6 x.f7).bind fun n => if n ≤ 20000 then ((node_Deep.f k x.f0 x.f1 x.f2 x.f3 x.f4 x.f5 x.f6 x.f7).bind fun d => if d ≤ 64 then rightF k x else some false) else some false) else some false
set_option maxHeartbeats 16000000 in
set_option maxRecDepth 100000 in
theorem Check_calls (k : Nat) (x : S24) (A : Option Addr) (c : Nat) (r : Bool) (w : World) (hC : Kd.C k24 w A x.f7.length x.f7) (hc : x.f7.length ≤ c) (hm : MaxAt w) (h : checkF k x = some r) :
  Calls Tryz.prog 6 #[.agg #[.int .i64 x.f0, .string x.f1, .int .i64 x.f2, .int .i64 x.f3, .int .i64 x.f4, .int .i64 x.f5, .string x.f6, .slice A x.f7.length c]] w fun e w' => e = .returned (.bool r) ∧ Below w.heap.size w w' := by
 have HC := Aside0.mk hC
 have Hc := Aside0.mk hc
 have HM := Aside0.mk hm
 clear hC hc hm
 unfold checkF at h
 by_cases h1 : x.f0 = 1
 ·rw [if_pos h1] at h
  have c1 : (x.f0 == 1) = true := by simpa using h1
  have d1 : decide (x.f0 = 1) = true := by simpa using h1
  obtain ⟨n, hn, h⟩ := Option.bind_eq_some_iff.mp h
  have HN := Aside0.mk hn
  clear h1 hn
  by_cases h2 : n ≤ 20000
  ·rw [if_pos h2] at h
   have c2 : decide (n ≤ 20000) = true := decide_eq_true h2
   obtain ⟨d, hd, h⟩ := Option.bind_eq_some_iff.mp h
   have HD := Aside0.mk hd
   clear h2 hd
   by_cases h3 : d ≤ 64
   ·rw [if_pos h3] at h
    have c3 : decide (d ≤ 64) = true := decide_eq_true h3
    have H := Aside0.mk h
    clear h3 h
    go_enter Tryz.func6, Tryz.ntmps6
    go_wp2_with (first | ((with_reducible refine gate_dst (N := 1) rfl ?_); refine box_event ?hg (N := 1) ?hd (cs := #[.int .i64 x.f0, .string x.f1, .int .i64 x.f2, .int .i64 x.f3, .int .i64 x.f4, .int .i64 x.f5, .string x.f6, .slice A x.f7.length c]) (t := 24) ?hr ?_; (case hd => rfl); (case hg => rfl); (case hr => first | (go_simp; done) | (go_simp; rfl)); intro gx hg w1 hbox hb; have HB1 := Aside0.mk hb; have HX1 := Aside0.mk hbox; obtain ⟨hq0, hqf0, hq1, hqf1, hq2, hqf2, hq3, hqf3, hq4, hqf4, hq5, hqf5, hq6, hqf6, hq7, hqf7⟩ := cells8 hbox; clear hbox hb hg))
    refine (node_Count.calls k x.f0 x.f1 x.f2 x.f3 x.f4 x.f5 x.f6 _ c x.f7 n _ (Kd.C_below HC.out HB1.out) Hc.out HN.out).mono ?_
    rintro e w2 ⟨rfl, hb⟩
    have HB2 := Aside0.mk hb
    clear hb
    clear hq0 hqf0; have hq0 : w2.cell? ⟨gx, 0, none⟩ = some (.int .i64 x.f0) := (blk_cell (blk_below HX1.out HB2.out) 0).trans rfl; have hqf0 := blk_frozen (blk_below HX1.out HB2.out) 0; clear hq1 hqf1; have hq1 : w2.cell? ⟨gx, 1, none⟩ = some (.string x.f1) := (blk_cell (blk_below HX1.out HB2.out) 1).trans rfl; have hqf1 := blk_frozen (blk_below HX1.out HB2.out) 1; clear hq2 hqf2; have hq2 : w2.cell? ⟨gx, 2, none⟩ = some (.int .i64 x.f2) := (blk_cell (blk_below HX1.out HB2.out) 2).trans rfl; have hqf2 := blk_frozen (blk_below HX1.out HB2.out) 2; clear hq3 hqf3; have hq3 : w2.cell? ⟨gx, 3, none⟩ = some (.int .i64 x.f3) := (blk_cell (blk_below HX1.out HB2.out) 3).trans rfl; have hqf3 := blk_frozen (blk_below HX1.out HB2.out) 3; clear hq4 hqf4; have hq4 : w2.cell? ⟨gx, 4, none⟩ = some (.int .i64 x.f4) := (blk_cell (blk_below HX1.out HB2.out) 4).trans rfl; have hqf4 := blk_frozen (blk_below HX1.out HB2.out) 4; clear hq5 hqf5; have hq5 : w2.cell? ⟨gx, 5, none⟩ = some (.int .i64 x.f5) := (blk_cell (blk_below HX1.out HB2.out) 5).trans rfl; have hqf5 := blk_frozen (blk_below HX1.out HB2.out) 5; clear hq6 hqf6; have hq6 : w2.cell? ⟨gx, 6, none⟩ = some (.string x.f6) := (blk_cell (blk_below HX1.out HB2.out) 6).trans rfl; have hqf6 := blk_frozen (blk_below HX1.out HB2.out) 6; clear hq7 hqf7; have hq7 : w2.cell? ⟨gx, 7, none⟩ = some (.slice A x.f7.length c) := (blk_cell (blk_below HX1.out HB2.out) 7).trans rfl; have hqf7 := blk_frozen (blk_below HX1.out HB2.out) 7
    go_wp2_with (fail)
    refine (node_Deep.calls k x.f0 x.f1 x.f2 x.f3 x.f4 x.f5 x.f6 _ c x.f7 d _ (Kd.C_below HC.out (below_step HB1.out HB2.out)) Hc.out HD.out).mono ?_
    rintro e w3 ⟨rfl, hb⟩
    have HB3 := Aside0.mk (below_step HB2.out hb)
    clear hb
    clear hq0 hqf0; have hq0 : w3.cell? ⟨gx, 0, none⟩ = some (.int .i64 x.f0) := (blk_cell (blk_below HX1.out HB3.out) 0).trans rfl; have hqf0 := blk_frozen (blk_below HX1.out HB3.out) 0; clear hq1 hqf1; have hq1 : w3.cell? ⟨gx, 1, none⟩ = some (.string x.f1) := (blk_cell (blk_below HX1.out HB3.out) 1).trans rfl; have hqf1 := blk_frozen (blk_below HX1.out HB3.out) 1; clear hq2 hqf2; have hq2 : w3.cell? ⟨gx, 2, none⟩ = some (.int .i64 x.f2) := (blk_cell (blk_below HX1.out HB3.out) 2).trans rfl; have hqf2 := blk_frozen (blk_below HX1.out HB3.out) 2; clear hq3 hqf3; have hq3 : w3.cell? ⟨gx, 3, none⟩ = some (.int .i64 x.f3) := (blk_cell (blk_below HX1.out HB3.out) 3).trans rfl; have hqf3 := blk_frozen (blk_below HX1.out HB3.out) 3; clear hq4 hqf4; have hq4 : w3.cell? ⟨gx, 4, none⟩ = some (.int .i64 x.f4) := (blk_cell (blk_below HX1.out HB3.out) 4).trans rfl; have hqf4 := blk_frozen (blk_below HX1.out HB3.out) 4; clear hq5 hqf5; have hq5 : w3.cell? ⟨gx, 5, none⟩ = some (.int .i64 x.f5) := (blk_cell (blk_below HX1.out HB3.out) 5).trans rfl; have hqf5 := blk_frozen (blk_below HX1.out HB3.out) 5; clear hq6 hqf6; have hq6 : w3.cell? ⟨gx, 6, none⟩ = some (.string x.f6) := (blk_cell (blk_below HX1.out HB3.out) 6).trans rfl; have hqf6 := blk_frozen (blk_below HX1.out HB3.out) 6; clear hq7 hqf7; have hq7 : w3.cell? ⟨gx, 7, none⟩ = some (.slice A x.f7.length c) := (blk_cell (blk_below HX1.out HB3.out) 7).trans rfl; have hqf7 := blk_frozen (blk_below HX1.out HB3.out) 7
    go_wp2_with (fail)
    refine (right_calls k x _ c r _ (Kd.C_below HC.out (below_step HB1.out HB3.out)) Hc.out (HM.out.below (below_step HB1.out HB3.out)) H.out).mono ?_
    rintro e w4 ⟨rfl, hb⟩
    have HB4 := Aside0.mk (below_step HB3.out hb)
    clear hb
    go_wp2
    go_ret
    exact ⟨rfl, below_step HB1.out HB4.out⟩
   ·rw [if_neg h3] at h
    have c3 : decide (d ≤ 64) = false := decide_eq_false h3
    obtain rfl := Option.some.inj h
    clear h3 h
    go_enter Tryz.func6, Tryz.ntmps6
    go_wp2_with (first | ((with_reducible refine gate_dst (N := 1) rfl ?_); refine box_event ?hg (N := 1) ?hd (cs := #[.int .i64 x.f0, .string x.f1, .int .i64 x.f2, .int .i64 x.f3, .int .i64 x.f4, .int .i64 x.f5, .string x.f6, .slice A x.f7.length c]) (t := 24) ?hr ?_; (case hd => rfl); (case hg => rfl); (case hr => first | (go_simp; done) | (go_simp; rfl)); intro gx hg w1 hbox hb; have HB1 := Aside0.mk hb; have HX1 := Aside0.mk hbox; obtain ⟨hq0, hqf0, hq1, hqf1, hq2, hqf2, hq3, hqf3, hq4, hqf4, hq5, hqf5, hq6, hqf6, hq7, hqf7⟩ := cells8 hbox; clear hbox hb hg))
    refine (node_Count.calls k x.f0 x.f1 x.f2 x.f3 x.f4 x.f5 x.f6 _ c x.f7 n _ (Kd.C_below HC.out HB1.out) Hc.out HN.out).mono ?_
    rintro e w2 ⟨rfl, hb⟩
    have HB2 := Aside0.mk hb
    clear hb
    clear hq0 hqf0; have hq0 : w2.cell? ⟨gx, 0, none⟩ = some (.int .i64 x.f0) := (blk_cell (blk_below HX1.out HB2.out) 0).trans rfl; have hqf0 := blk_frozen (blk_below HX1.out HB2.out) 0; clear hq1 hqf1; have hq1 : w2.cell? ⟨gx, 1, none⟩ = some (.string x.f1) := (blk_cell (blk_below HX1.out HB2.out) 1).trans rfl; have hqf1 := blk_frozen (blk_below HX1.out HB2.out) 1; clear hq2 hqf2; have hq2 : w2.cell? ⟨gx, 2, none⟩ = some (.int .i64 x.f2) := (blk_cell (blk_below HX1.out HB2.out) 2).trans rfl; have hqf2 := blk_frozen (blk_below HX1.out HB2.out) 2; clear hq3 hqf3; have hq3 : w2.cell? ⟨gx, 3, none⟩ = some (.int .i64 x.f3) := (blk_cell (blk_below HX1.out HB2.out) 3).trans rfl; have hqf3 := blk_frozen (blk_below HX1.out HB2.out) 3; clear hq4 hqf4; have hq4 : w2.cell? ⟨gx, 4, none⟩ = some (.int .i64 x.f4) := (blk_cell (blk_below HX1.out HB2.out) 4).trans rfl; have hqf4 := blk_frozen (blk_below HX1.out HB2.out) 4; clear hq5 hqf5; have hq5 : w2.cell? ⟨gx, 5, none⟩ = some (.int .i64 x.f5) := (blk_cell (blk_below HX1.out HB2.out) 5).trans rfl; have hqf5 := blk_frozen (blk_below HX1.out HB2.out) 5; clear hq6 hqf6; have hq6 : w2.cell? ⟨gx, 6, none⟩ = some (.string x.f6) := (blk_cell (blk_below HX1.out HB2.out) 6).trans rfl; have hqf6 := blk_frozen (blk_below HX1.out HB2.out) 6; clear hq7 hqf7; have hq7 : w2.cell? ⟨gx, 7, none⟩ = some (.slice A x.f7.length c) := (blk_cell (blk_below HX1.out HB2.out) 7).trans rfl; have hqf7 := blk_frozen (blk_below HX1.out HB2.out) 7
    go_wp2_with (fail)
    refine (node_Deep.calls k x.f0 x.f1 x.f2 x.f3 x.f4 x.f5 x.f6 _ c x.f7 d _ (Kd.C_below HC.out (below_step HB1.out HB2.out)) Hc.out HD.out).mono ?_
    rintro e w3 ⟨rfl, hb⟩
    have HB3 := Aside0.mk (below_step HB2.out hb)
    clear hb
    clear hq0 hqf0; have hq0 : w3.cell? ⟨gx, 0, none⟩ = some (.int .i64 x.f0) := (blk_cell (blk_below HX1.out HB3.out) 0).trans rfl; have hqf0 := blk_frozen (blk_below HX1.out HB3.out) 0; clear hq1 hqf1; have hq1 : w3.cell? ⟨gx, 1, none⟩ = some (.string x.f1) := (blk_cell (blk_below HX1.out HB3.out) 1).trans rfl; have hqf1 := blk_frozen (blk_below HX1.out HB3.out) 1; clear hq2 hqf2; have hq2 : w3.cell? ⟨gx, 2, none⟩ = some (.int .i64 x.f2) := (blk_cell (blk_below HX1.out HB3.out) 2).trans rfl; have hqf2 := blk_frozen (blk_below HX1.out HB3.out) 2; clear hq3 hqf3; have hq3 : w3.cell? ⟨gx, 3, none⟩ = some (.int .i64 x.f3) := (blk_cell (blk_below HX1.out HB3.out) 3).trans rfl; have hqf3 := blk_frozen (blk_below HX1.out HB3.out) 3; clear hq4 hqf4; have hq4 : w3.cell? ⟨gx, 4, none⟩ = some (.int .i64 x.f4) := (blk_cell (blk_below HX1.out HB3.out) 4).trans rfl; have hqf4 := blk_frozen (blk_below HX1.out HB3.out) 4; clear hq5 hqf5; have hq5 : w3.cell? ⟨gx, 5, none⟩ = some (.int .i64 x.f5) := (blk_cell (blk_below HX1.out HB3.out) 5).trans rfl; have hqf5 := blk_frozen (blk_below HX1.out HB3.out) 5; clear hq6 hqf6; have hq6 : w3.cell? ⟨gx, 6, none⟩ = some (.string x.f6) := (blk_cell (blk_below HX1.out HB3.out) 6).trans rfl; have hqf6 := blk_frozen (blk_below HX1.out HB3.out) 6; clear hq7 hqf7; have hq7 : w3.cell? ⟨gx, 7, none⟩ = some (.slice A x.f7.length c) := (blk_cell (blk_below HX1.out HB3.out) 7).trans rfl; have hqf7 := blk_frozen (blk_below HX1.out HB3.out) 7
    go_wp2
    go_ret
    exact ⟨rfl, below_step HB1.out HB3.out⟩
  ·rw [if_neg h2] at h
   have c2 : decide (n ≤ 20000) = false := decide_eq_false h2
   obtain rfl := Option.some.inj h
   clear h2 h
   go_enter Tryz.func6, Tryz.ntmps6
   go_wp2_with (first | ((with_reducible refine gate_dst (N := 1) rfl ?_); refine box_event ?hg (N := 1) ?hd (cs := #[.int .i64 x.f0, .string x.f1, .int .i64 x.f2, .int .i64 x.f3, .int .i64 x.f4, .int .i64 x.f5, .string x.f6, .slice A x.f7.length c]) (t := 24) ?hr ?_; (case hd => rfl); (case hg => rfl); (case hr => first | (go_simp; done) | (go_simp; rfl)); intro gx hg w1 hbox hb; have HB1 := Aside0.mk hb; have HX1 := Aside0.mk hbox; obtain ⟨hq0, hqf0, hq1, hqf1, hq2, hqf2, hq3, hqf3, hq4, hqf4, hq5, hqf5, hq6, hqf6, hq7, hqf7⟩ := cells8 hbox; clear hbox hb hg))
   refine (node_Count.calls k x.f0 x.f1 x.f2 x.f3 x.f4 x.f5 x.f6 _ c x.f7 n _ (Kd.C_below HC.out HB1.out) Hc.out HN.out).mono ?_
   rintro e w2 ⟨rfl, hb⟩
   have HB2 := Aside0.mk hb
   clear hb
   clear hq0 hqf0; have hq0 : w2.cell? ⟨gx, 0, none⟩ = some (.int .i64 x.f0) := (blk_cell (blk_below HX1.out HB2.out) 0).trans rfl; have hqf0 := blk_frozen (blk_below HX1.out HB2.out) 0; clear hq1 hqf1; have hq1 : w2.cell? ⟨gx, 1, none⟩ = some (.string x.f1) := (blk_cell (blk_below HX1.out HB2.out) 1).trans rfl; have hqf1 := blk_frozen (blk_below HX1.out HB2.out) 1; clear hq2 hqf2; have hq2 : w2.cell? ⟨gx, 2, none⟩ = some (.int .i64 x.f2) := (blk_cell (blk_below HX1.out HB2.out) 2).trans rfl; have hqf2 := blk_frozen (blk_below HX1.out HB2.out) 2; clear hq3 hqf3; have hq3 : w2.cell? ⟨gx, 3, none⟩ = some (.int .i64 x.f3) := (blk_cell (blk_below HX1.out HB2.out) 3).trans rfl; have hqf3 := blk_frozen (blk_below HX1.out HB2.out) 3; clear hq4 hqf4; have hq4 : w2.cell? ⟨gx, 4, none⟩ = some (.int .i64 x.f4) := (blk_cell (blk_below HX1.out HB2.out) 4).trans rfl; have hqf4 := blk_frozen (blk_below HX1.out HB2.out) 4; clear hq5 hqf5; have hq5 : w2.cell? ⟨gx, 5, none⟩ = some (.int .i64 x.f5) := (blk_cell (blk_below HX1.out HB2.out) 5).trans rfl; have hqf5 := blk_frozen (blk_below HX1.out HB2.out) 5; clear hq6 hqf6; have hq6 : w2.cell? ⟨gx, 6, none⟩ = some (.string x.f6) := (blk_cell (blk_below HX1.out HB2.out) 6).trans rfl; have hqf6 := blk_frozen (blk_below HX1.out HB2.out) 6; clear hq7 hqf7; have hq7 : w2.cell? ⟨gx, 7, none⟩ = some (.slice A x.f7.length c) := (blk_cell (blk_below HX1.out HB2.out) 7).trans rfl; have hqf7 := blk_frozen (blk_below HX1.out HB2.out) 7
   go_wp2
   go_ret
   exact ⟨rfl, below_step HB1.out HB2.out⟩
 ·rw [if_neg h1] at h
  have c1 : (x.f0 == 1) = false := by simpa using h1
  have d1 : decide (x.f0 = 1) = false := by simpa using h1
  obtain rfl := Option.some.inj h
  clear h1 h
  go_enter Tryz.func6, Tryz.ntmps6
  go_wp2_with (first | ((with_reducible refine gate_dst (N := 1) rfl ?_); refine box_event ?hg (N := 1) ?hd (cs := #[.int .i64 x.f0, .string x.f1, .int .i64 x.f2, .int .i64 x.f3, .int .i64 x.f4, .int .i64 x.f5, .string x.f6, .slice A x.f7.length c]) (t := 24) ?hr ?_; (case hd => rfl); (case hg => rfl); (case hr => first | (go_simp; done) | (go_simp; rfl)); intro gx hg w1 hbox hb; have HB1 := Aside0.mk hb; have HX1 := Aside0.mk hbox; obtain ⟨hq0, hqf0, hq1, hqf1, hq2, hqf2, hq3, hqf3, hq4, hqf4, hq5, hqf5, hq6, hqf6, hq7, hqf7⟩ := cells8 hbox; clear hbox hb hg))
  go_ret
  exact ⟨rfl, HB1.out⟩
end Go.Proofs.YtdkepckkihclgaaGreatDoor.PNodeChecks
namespace Go.Proofs.YtdkepckkihclgaaGreatDoor.PNodeChecks
open Go.RowKit Go.Proofs.YtdkepckkihclgaaGreatDoorW.PrintWords Go.Proofs.YtdkepckkihclgaaGreatDoorW.PrintLast Go.Proofs.YtdkepckkihclgaaGreatDoorW.PrintMore
set_option linter.unusedVariables false
set_option linter.unusedSimpArgs false
def leaf1 : S24 := (⟨1, ⟨#[]⟩, 0, 0, 0, 0, ⟨#[]⟩, []⟩ : S24)
theorem leaf_count : node_Count.f 5 1 ⟨#[]⟩ 0 0 0 0 ⟨#[]⟩ [] = some 1 := by simp [node_Count.f, cntF, cntL, show wrap64 1 = 1 by (unfold wrap64; omega)]
theorem leaf_deep : node_Deep.f 5 1 ⟨#[]⟩ 0 0 0 0 ⟨#[]⟩ [] = some 1 := by simp [node_Deep.f, dpF, dpL]
theorem leaf_right : rightF 5 leaf1 = some true := by
 simp [rightF, rightL, leaf1, headB, docB, numB, mkB, textB, numsB, kidsB, fileKids, ofL, allIn, ByteArray.size]
theorem leaf_check : checkF 5 leaf1 = some true := by
 simp only [checkF]
 rw [if_pos (by rfl), show node_Count.f 5 leaf1.f0 leaf1.f1 leaf1.f2 leaf1.f3 leaf1.f4 leaf1.f5 leaf1.f6 leaf1.f7 = some 1 from leaf_count, Option.bind_some, if_pos (by decide), show node_Deep.f 5 leaf1.f0 leaf1.f1 leaf1.f2 leaf1.f3 leaf1.f4 leaf1.f5 leaf1.f6 leaf1.f7 = some 1 from leaf_deep, Option.bind_some, if_pos (by decide)]
 exact leaf_right
set_option maxHeartbeats 16000000 in
set_option maxRecDepth 100000 in
theorem awake_calls (w : World) (hm : MaxAt w) : Calls Tryz.prog 4 #[] w fun e w' => e = .returned (.bool true) ∧ Below w.heap.size w w' := by
 have HM := Aside0.mk hm
 clear hm
 go_enter Tryz.func4, Tryz.ntmps4
 go_wp2_with (first | ((with_reducible refine gate_dst (N := 1) rfl ?_); refine box_event ?hg (N := 1) ?hd (cs := #[.int .i64 0, .string (⟨#[]⟩ : ByteArray), .int .i64 0, .int .i64 0, .int .i64 0, .int .i64 0, .string (⟨#[]⟩ : ByteArray), .slice none 0 0]) (t := 24) ?hr ?_; (case hd => rfl); (case hg => rfl); (case hr => first | (go_simp; done) | (go_simp; rfl)); intro g hg w1 hbox hb; have HB1 := Aside0.mk hb; have HX1 := Aside0.mk hbox; have HG := Aside0.mk (show w.heap.size ≤ g by rw [hg]; exact Nat.le_refl _); obtain ⟨hz0, hzf0, hz1, hzf1, hz2, hzf2, hz3, hzf3, hz4, hzf4, hz5, hzf5, hz6, hzf6, hz7, hzf7⟩ := cells8 hbox; clear hbox hb hg))
 obtain ⟨wq, hwq⟩ : ∃ wq, ((((((((w1.setCell ⟨g, 0, none⟩ (.int .i64 1)).setCell ⟨g, 1, none⟩ (.string (⟨#[]⟩ : ByteArray))).setCell ⟨g, 2, none⟩ (.int .i64 0)).setCell ⟨g, 3, none⟩ (.int .i64 0)).setCell ⟨g, 4, none⟩ (.int .i64 0)).setCell ⟨g, 5, none⟩ (.int .i64 0)).setCell ⟨g, 6, none⟩ (.string (⟨#[]⟩ : ByteArray))).setCell ⟨g, 7, none⟩ (.slice none 0 0)) = wq := ⟨_, rfl⟩
 have HBq : Aside0 (Below w.heap.size w wq) := ⟨hwq ▸ (below_set (below_set (below_set (below_set (below_set (below_set (below_set (below_set HB1.out HG.out (j := 0)) HG.out (j := 1)) HG.out (j := 2)) HG.out (j := 3)) HG.out (j := 4)) HG.out (j := 5)) HG.out (j := 6)) HG.out (j := 7))⟩
 have HXq : Aside0 (wq.heap[g]? = some (.cells #[.int .i64 1, .string (⟨#[]⟩ : ByteArray), .int .i64 0, .int .i64 0, .int .i64 0, .int .i64 0, .string (⟨#[]⟩ : ByteArray), .slice none 0 0] 24 (0, 0))) := ⟨hwq ▸ (blk_put (blk_put (blk_put (blk_put (blk_put (blk_put (blk_put (blk_put HX1.out 0 _ rfl) 1 _ rfl) 2 _ rfl) 3 _ rfl) 4 _ rfl) 5 _ rfl) 6 _ rfl) 7 _ rfl)⟩
 rw [hwq]
 clear hwq HB1 HX1 hz0 hzf0 hz1 hzf1 hz2 hzf2 hz3 hzf3 hz4 hzf4 hz5 hzf5 hz6 hzf6 hz7 hzf7
 obtain ⟨hq0, hqf0, hq1, hqf1, hq2, hqf2, hq3, hqf3, hq4, hqf4, hq5, hqf5, hq6, hqf6, hq7, hqf7⟩ := cells8 HXq.out
 refine (show Calls Tryz.prog 6 #[.agg #[.int .i64 1, .string (⟨#[]⟩ : ByteArray), .int .i64 0, .int .i64 0, .int .i64 0, .int .i64 0, .string (⟨#[]⟩ : ByteArray), .slice none 0 0]] _ _ from Check_calls 5 leaf1 none 0 true wq (Kd.C_nil k24 _) (Nat.le_refl _) (HM.out.below HBq.out) leaf_check).mono ?_
 rintro e w2 ⟨rfl, hb⟩
 have HB2 := Aside0.mk (below_step HBq.out hb)
 have HX2 := Aside0.mk (blk_below HXq.out hb)
 clear hb
 clear hq0 hqf0
 have hq0 : w2.cell? ⟨g, 0, none⟩ = some (.int .i64 1) := (blk_cell HX2.out 0).trans rfl
 have hqf0 := blk_frozen HX2.out 0
 clear hq1 hqf1
 have hq1 : w2.cell? ⟨g, 1, none⟩ = some (.string (⟨#[]⟩ : ByteArray)) := (blk_cell HX2.out 1).trans rfl
 have hqf1 := blk_frozen HX2.out 1
 clear hq2 hqf2
 have hq2 : w2.cell? ⟨g, 2, none⟩ = some (.int .i64 0) := (blk_cell HX2.out 2).trans rfl
 have hqf2 := blk_frozen HX2.out 2
 clear hq3 hqf3
 have hq3 : w2.cell? ⟨g, 3, none⟩ = some (.int .i64 0) := (blk_cell HX2.out 3).trans rfl
 have hqf3 := blk_frozen HX2.out 3
 clear hq4 hqf4
 have hq4 : w2.cell? ⟨g, 4, none⟩ = some (.int .i64 0) := (blk_cell HX2.out 4).trans rfl
 have hqf4 := blk_frozen HX2.out 4
 clear hq5 hqf5
 have hq5 : w2.cell? ⟨g, 5, none⟩ = some (.int .i64 0) := (blk_cell HX2.out 5).trans rfl
 have hqf5 := blk_frozen HX2.out 5
 clear hq6 hqf6
 have hq6 : w2.cell? ⟨g, 6, none⟩ = some (.string (⟨#[]⟩ : ByteArray)) := (blk_cell HX2.out 6).trans rfl
 have hqf6 := blk_frozen HX2.out 6
 clear hq7 hqf7
 have hq7 : w2.cell? ⟨g, 7, none⟩ = some (.slice none 0 0) := (blk_cell HX2.out 7).trans rfl
 have hqf7 := blk_frozen HX2.out 7
 go_wp2_with (fail)
 refine (show Calls Tryz.prog 8 #[.agg #[.int .i64 1, .string (⟨#[]⟩ : ByteArray), .int .i64 0, .int .i64 0, .int .i64 0, .int .i64 0, .string (⟨#[]⟩ : ByteArray), .slice none 0 0]] _ _ from node_Count.calls 5 1 ⟨#[]⟩ 0 0 0 0 ⟨#[]⟩ none 0 [] 1 w2 (Kd.C_nil k24 _) (Nat.le_refl _) leaf_count).mono ?_
 rintro e w3 ⟨rfl, hb⟩
 have HB3 := Aside0.mk (below_step HB2.out hb)
 have HX3 := Aside0.mk (blk_below HX2.out hb)
 clear hb
 clear hq0 hqf0
 have hq0 : w3.cell? ⟨g, 0, none⟩ = some (.int .i64 1) := (blk_cell HX3.out 0).trans rfl
 have hqf0 := blk_frozen HX3.out 0
 clear hq1 hqf1
 have hq1 : w3.cell? ⟨g, 1, none⟩ = some (.string (⟨#[]⟩ : ByteArray)) := (blk_cell HX3.out 1).trans rfl
 have hqf1 := blk_frozen HX3.out 1
 clear hq2 hqf2
 have hq2 : w3.cell? ⟨g, 2, none⟩ = some (.int .i64 0) := (blk_cell HX3.out 2).trans rfl
 have hqf2 := blk_frozen HX3.out 2
 clear hq3 hqf3
 have hq3 : w3.cell? ⟨g, 3, none⟩ = some (.int .i64 0) := (blk_cell HX3.out 3).trans rfl
 have hqf3 := blk_frozen HX3.out 3
 clear hq4 hqf4
 have hq4 : w3.cell? ⟨g, 4, none⟩ = some (.int .i64 0) := (blk_cell HX3.out 4).trans rfl
 have hqf4 := blk_frozen HX3.out 4
 clear hq5 hqf5
 have hq5 : w3.cell? ⟨g, 5, none⟩ = some (.int .i64 0) := (blk_cell HX3.out 5).trans rfl
 have hqf5 := blk_frozen HX3.out 5
 clear hq6 hqf6
 have hq6 : w3.cell? ⟨g, 6, none⟩ = some (.string (⟨#[]⟩ : ByteArray)) := (blk_cell HX3.out 6).trans rfl
 have hqf6 := blk_frozen HX3.out 6
 clear hq7 hqf7
 have hq7 : w3.cell? ⟨g, 7, none⟩ = some (.slice none 0 0) := (blk_cell HX3.out 7).trans rfl
 have hqf7 := blk_frozen HX3.out 7
 go_wp2_with (fail)
 refine (show Calls Tryz.prog 9 #[.agg #[.int .i64 1, .string (⟨#[]⟩ : ByteArray), .int .i64 0, .int .i64 0, .int .i64 0, .int .i64 0, .string (⟨#[]⟩ : ByteArray), .slice none 0 0]] _ _ from node_Deep.calls 5 1 ⟨#[]⟩ 0 0 0 0 ⟨#[]⟩ none 0 [] 1 w3 (Kd.C_nil k24 _) (Nat.le_refl _) leaf_deep).mono ?_
 rintro e w4 ⟨rfl, hb⟩
 have HB4 := Aside0.mk (below_step HB3.out hb)
 clear hb
 go_wp2
 go_ret
 exact ⟨rfl, HB4.out⟩
end Go.Proofs.YtdkepckkihclgaaGreatDoor.PNodeChecks

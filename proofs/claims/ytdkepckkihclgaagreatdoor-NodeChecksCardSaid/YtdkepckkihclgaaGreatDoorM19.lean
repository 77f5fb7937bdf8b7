import Derived.Test.YtdkepckkihclgaaGreatDoorM18
import Derived.RangeFuncNested
import Derived.RangeFuncBound
import Derived.RangeFuncCalls
import Derived.RangeFuncLeaves
import Derived.Shelf.Abstract
import Derived.Shelf.RegionOpen
import Derived.WalkKit
import Derived.OwnWalkIn
import Derived.TacticsInMore
import Derived.LoopNIn
import Derived.LoopIn
import Derived.Laws.RangeString
import Derived.Laws.RangeAny
import Derived.Lib.RuneCount
import Derived.LoopTactic
import Derived.Lib.IndexLaws
namespace Go.Proofs.YtdkepckkihclgaaGreatDoor.PNodeChecks
open Go.RowKit Go.Proofs.YtdkepckkihclgaaGreatDoorW.PrintWords Go.Proofs.YtdkepckkihclgaaGreatDoorW.PrintLast Go.Proofs.YtdkepckkihclgaaGreatDoorW.PrintMore
set_option linter.unusedVariables false
set_option linter.unusedSimpArgs false
def fileKids (k : Nat) (l : List S24) : Option Bool := if allIn [2, 3, 4, 5, 6, 7, 8] l then (ofL k l 3 0 []).map fun zs => decide (zs.length ≤ 1) else some false
set_option maxHeartbeats 8000000 in
set_option maxRecDepth 100000 in
theorem fileKids_calls (k : Nat) (l : List S24) (A : Option Addr) (c : Nat) (r : Bool) (w : World) (hr : Kd.C k24 w A l.length l) (hc : l.length ≤ c) (h : fileKids k l = some r) :
    Calls Tryz.prog 40 #[.slice A l.length c] w fun e w' => e = .returned (.bool r) ∧ Below w.heap.size w w' := by
  have HR := Aside0.mk hr
  have HC := Aside0.mk hc
  cases hk : allIn [2, 3, 4, 5, 6, 7, 8] l
  · have HK := Aside0.mk hk
    simp only [fileKids, hk, Bool.false_eq_true, if_false, Option.some.injEq] at h
    subst h
    clear hr hc hk
    go_enter Tryz.func40, Tryz.ntmps40
    go_wp2_with (fail)
    have hi1 : IntsAt (w.alloc (.cells #[.int .i64 2, .int .i64 3, .int .i64 4, .int .i64 5, .int .i64 6, .int .i64 7, .int .i64 8] 3)) w.heap.size [2, 3, 4, 5, 6, 7, 8] := ints_new w [2, 3, 4, 5, 6, 7, 8] 3
    refine (show Calls Tryz.prog 37 #[.slice (some ⟨w.heap.size, 0, none⟩) 7 7] _ (AnyPost _ [2, 3, 4, 5, 6, 7, 8] _) from anyOf_calls w.heap.size [2, 3, 4, 5, 6, 7, 8] _ (by decide) hi1).mono ?_
    rintro e w1 ⟨b1, rfl, hat, hbb⟩
    have HA1 := Aside0.mk hat
    have HB1 := Aside0.mk (below_step (below_alloc (Below.refl _ w) (.cells #[.int .i64 2, .int .i64 3, .int .i64 4, .int .i64 5, .int .i64 6, .int .i64 7, .int .i64 8] 3)) hbb)
    clear hat hbb hi1
    go_wp2_with (fail)
    refine (any1_calls l A c b1 w.heap.size [2, 3, 4, 5, 6, 7, 8] _ (Kd.C_below HR.out HB1.out) HC.out HA1.out).mono ?_
    rintro e w2 ⟨rfl, hbb⟩
    have HB2 := Aside0.mk (below_step HB1.out hbb)
    clear hbb
    rw [HK.out]
    go_wp2
    go_ret
    exact ⟨rfl, HB2.out⟩
  · have HK := Aside0.mk hk
    simp only [fileKids, hk, if_true] at h
    obtain ⟨zs, hz, hrz⟩ := Option.map_eq_some_iff.mp h
    have HZ := Aside0.mk hz
    clear hr hc hk h hz
    go_enter Tryz.func40, Tryz.ntmps40
    go_wp2_with (fail)
    have hi1 : IntsAt (w.alloc (.cells #[.int .i64 2, .int .i64 3, .int .i64 4, .int .i64 5, .int .i64 6, .int .i64 7, .int .i64 8] 3)) w.heap.size [2, 3, 4, 5, 6, 7, 8] := ints_new w [2, 3, 4, 5, 6, 7, 8] 3
    refine (show Calls Tryz.prog 37 #[.slice (some ⟨w.heap.size, 0, none⟩) 7 7] _ (AnyPost _ [2, 3, 4, 5, 6, 7, 8] _) from anyOf_calls w.heap.size [2, 3, 4, 5, 6, 7, 8] _ (by decide) hi1).mono ?_
    rintro e w1 ⟨b1, rfl, hat, hbb⟩
    have HA1 := Aside0.mk hat
    have HB1 := Aside0.mk (below_step (below_alloc (Below.refl _ w) (.cells #[.int .i64 2, .int .i64 3, .int .i64 4, .int .i64 5, .int .i64 6, .int .i64 7, .int .i64 8] 3)) hbb)
    clear hat hbb hi1
    go_wp2_with (fail)
    refine (any1_calls l A c b1 w.heap.size [2, 3, 4, 5, 6, 7, 8] _ (Kd.C_below HR.out HB1.out) HC.out HA1.out).mono ?_
    rintro e w2 ⟨rfl, hbb⟩
    have HB2 := Aside0.mk (below_step HB1.out hbb)
    clear hbb
    rw [HK.out]
    go_wp2_with (fail)
    with_reducible refine (Of_calls k ⟨0, ⟨#[]⟩, 0, 0, 0, 0, ⟨#[]⟩, l⟩ 3 A c zs _ (Kd.C_below HR.out HB2.out) HC.out HZ.out).mono ?_
    rintro e w3 ⟨u, rfl, hu, hbb⟩
    obtain ⟨Au, cu, hu2⟩ := Kd.R_slice hu
    subst hu2
    have HB3 := Aside0.mk (below_step HB2.out hbb)
    clear hu hbb
    go_wp2
    go_ret
    exact ⟨by rw [← hrz]; simp; omega, HB3.out⟩
theorem childless_calls (l : List S24) (A : Option Addr) (c : Nat) (w : World) :
    Calls Tryz.prog 32 #[.slice A l.length c] w fun e w' => e = .returned (.bool (decide (l.length = 0))) ∧ Below w.heap.size w w' := by
  go_enter Tryz.func32, Tryz.ntmps32
  go_wp2
  go_ret
  exact ⟨by have : ((l.length : Int) == 0) = decide (l.length = 0) := by (rw [Bool.eq_iff_iff, beq_iff_eq, decide_eq_true_eq]; omega)
            rw [this]; rfl, Below.refl _ _⟩
def soleKid (l : List S24) : Bool := decide (l.length = 1) && worthK (rd_T24 l 0).f0
set_option maxHeartbeats 8000000 in
set_option maxRecDepth 100000 in
theorem soleKid_calls (l : List S24) (A : Option Addr) (c : Nat) (w : World) (hr : Kd.C k24 w A l.length l) :
    Calls Tryz.prog 59 #[.slice A l.length c] w fun e w' => e = .returned (.bool (soleKid l)) ∧ Below w.heap.size w w' := by
  by_cases h1 : l.length = 1
  · have h0 : (0 : Int) < (l.length : Int) := by omega
    obtain ⟨ad, A7, c7, e, hx0, hx1, hx2, hx3, hx4, hx5, hx6, hx7, hl7, hi7⟩ := at_T24 hr 0 (by omega) h0
    cases e
    obtain ⟨x, hx⟩ : ∃ x, rd_T24 l 0 = x := ⟨_, rfl⟩
    have had : ad.add 0 = ad := by simp [Addr.add]
    rw [hx] at hx0 hx1 hx2 hx3 hx4 hx5 hx6 hx7
    simp only [Int.toNat_zero, Nat.zero_mul, had] at hx0 hx1 hx2 hx3 hx4 hx5 hx6 hx7
    have hF : Aside0 (soleKid l = worthK x.f0) := ⟨by simp [soleKid, h1, hx]⟩
    have h1d : decide ((l.length : Int) = 1) = true := decide_eq_true (by omega)
    have h1b : ((l.length : Int) == 1) = true := by (rw [beq_iff_eq]; omega)
    have hn0 : 0 < l.length := by omega
    have hn0b : decide (0 < l.length) = true := decide_eq_true hn0
    clear hl7 hi7 had hx hr
    go_enter Tryz.func59, Tryz.ntmps59
    go_wp2_with (fail)
    with_reducible refine (worth_node x A7 c7 _).mono ?_
    rintro e w1 ⟨rfl, hbb⟩
    go_wp2
    go_ret
    exact ⟨by rw [hF.out]; simp, hbb⟩
  · have h1d : decide ((l.length : Int) = 1) = false := decide_eq_false (by omega)
    have h1b : ((l.length : Int) == 1) = false := by (rw [beq_eq_false_iff_ne]; omega)
    have hF : Aside0 (soleKid l = false) := ⟨by simp [soleKid, h1]⟩
    clear hr
    go_enter Tryz.func59, Tryz.ntmps59
    go_wp2
    go_ret
    exact ⟨by rw [hF.out]; rfl, Below.refl _ _⟩
def noLab : Nat → List S24 → Int → Option Bool
  | 0, _, _ => none
  | k + 1, l, i => if i < (l.length : Int) then (if 0 ≤ i then (if (rd_T24 l i).f0 = 9 then (if (rd_T24 l i).f4 = 0 then noLab k l (wrap64 (i + 1)) else some false) else noLab k l (wrap64 (i + 1))) else none) else some true
def blockKids (k : Nat) (l : List S24) : Option Bool := (noLab k l 0).map fun b => b && allIn [9, 4] l
set_option maxHeartbeats 8000000 in
set_option maxRecDepth 100000 in
theorem blockKids_calls (k : Nat) (l : List S24) (A : Option Addr) (c : Nat) (r : Bool) (w : World) (hr : Kd.C k24 w A l.length l) (hc : l.length ≤ c) (h : blockKids k l = some r) :
    Calls Tryz.prog 45 #[.slice A l.length c] w fun e w' => e = .returned (.bool r) ∧ Below w.heap.size w w' := by
  have HR := Aside0.mk hr
  have HC := Aside0.mk hc
  obtain ⟨r0, h0, hr0⟩ := Option.map_eq_some_iff.mp h
  have H := Aside0.mk h0
  have HF := Aside0.mk hr0
  clear hr hc h h0 hr0
  go_enter Tryz.func45, Tryz.ntmps45
  go_wp2
  go_loopg [7] k (fun kq v7 w' => ∃ (i : Int), v7 = .int .i64 i ∧ Aside0 (noLab kq l i = some r0) ∧ Aside0 (kq ≤ k) ∧ Aside0 (Below w.heap.size w w') ∧ True)
  case atStart => exact ⟨0, rfl, H, ⟨Nat.le_refl _⟩, ⟨Below.refl _ _⟩, trivial⟩
  case round =>
    clear H
    obtain ⟨i, rfl, HA, HK, HBr, -⟩ := hrel
    cases gk with
    | zero => exact absurd HA.out (by simp [noLab])
    | succ k1 =>
      have H := HA.out
      clear HA
      simp only [noLab] at H
      by_cases c7 : i < (l.length : Int)
      · rw [if_pos c7] at H
        by_cases c8 : 0 ≤ i
        · rw [if_pos c8] at H
          obtain ⟨ad, A7, c77, e, hx0, hx1, hx2, hx3, hx4, hx5, hx6, hx7, hl7, hi7⟩ := at_T24 HR.out i c8 c7
          cases e
          clear hl7 hi7
          replace hx0 := (HBr.out.cell (World.block_lt_of_cell? w _ hx0)).trans hx0
          replace hx1 := (HBr.out.cell (World.block_lt_of_cell? w _ hx1)).trans hx1
          replace hx2 := (HBr.out.cell (World.block_lt_of_cell? w _ hx2)).trans hx2
          replace hx3 := (HBr.out.cell (World.block_lt_of_cell? w _ hx3)).trans hx3
          replace hx4 := (HBr.out.cell (World.block_lt_of_cell? w _ hx4)).trans hx4
          replace hx5 := (HBr.out.cell (World.block_lt_of_cell? w _ hx5)).trans hx5
          replace hx6 := (HBr.out.cell (World.block_lt_of_cell? w _ hx6)).trans hx6
          replace hx7 := (HBr.out.cell (World.block_lt_of_cell? w _ hx7)).trans hx7
          have c7b := decide_eq_true c7
          have c8b := decide_eq_true c8
          replace c7 := eq_true c7
          replace c8 := eq_true c8
          obtain ⟨y, hy⟩ : ∃ y, rd_T24 l i = y := ⟨_, rfl⟩
          rw [hy] at H hx0 hx1 hx2 hx3 hx4 hx5 hx6 hx7
          clear hy
          by_cases c9 : y.f0 = 9
          · rw [if_pos c9] at H
            have c9b : (y.f0 == 9) = true := by simpa using c9
            have c9d : decide (y.f0 = 9) = true := by simpa using c9
            clear c9
            by_cases c10 : y.f4 = 0
            · rw [if_pos c10] at H
              have d9b : (y.f4 == 0) = true := by simpa using c10
              have d9d : decide (y.f4 = 0) = true := by simpa using c10
              clear c10
              have H := Aside0.mk H
              go_wp2_with (first | ((with_reducible refine gate_dst (N := 4) rfl ?_); refine box_event ?hg (N := 4) ?hd (cs := #[.int .i64 0, .string (⟨#[]⟩ : ByteArray), .int .i64 0, .int .i64 0, .int .i64 0, .int .i64 0, .string (⟨#[]⟩ : ByteArray), .slice none 0 0]) (t := 24) ?hr ?_; (case hd => rfl); (case hg => rfl); (case hr => first | (go_simp; done) | (go_simp; rfl)); intro g2 hg w3 hbox hb; have HB3 := Aside0.mk (below_step HBr.out hb); have hgW2 := Aside0.mk (show w.heap.size ≤ g2 by rw [hg]; exact HBr.out.size); obtain ⟨hz0, hzf0, hz1, hzf1, hz2, hzf2, hz3, hzf3, hz4, hzf4, hz5, hzf5, hz6, hzf6, hz7, hzf7⟩ := cells8 hbox; clear hbox hb hg))
              go_roundg k1
              case measure => have := HK.out; omega
              case rel => exact ⟨wrap64 (i + 1), rfl, H, ⟨by have := HK.out; omega⟩, ⟨(below_set (below_set (below_set (below_set (below_set (below_set (below_set (below_set HB3.out hgW2.out (j := 0)) hgW2.out (j := 1)) hgW2.out (j := 2)) hgW2.out (j := 3)) hgW2.out (j := 4)) hgW2.out (j := 5)) hgW2.out (j := 6)) hgW2.out (j := 7))⟩, trivial⟩
            · rw [if_neg c10] at H
              obtain rfl := Option.some.inj H
              have d9b : (y.f4 == 0) = false := by simpa using c10
              have d9d : decide (y.f4 = 0) = false := by simpa using c10
              clear c10
              go_wp2_with (first | ((with_reducible refine gate_dst (N := 4) rfl ?_); refine box_event ?hg (N := 4) ?hd (cs := #[.int .i64 0, .string (⟨#[]⟩ : ByteArray), .int .i64 0, .int .i64 0, .int .i64 0, .int .i64 0, .string (⟨#[]⟩ : ByteArray), .slice none 0 0]) (t := 24) ?hr ?_; (case hd => rfl); (case hg => rfl); (case hr => first | (go_simp; done) | (go_simp; rfl)); intro g2 hg w3 hbox hb; have HB3 := Aside0.mk (below_step HBr.out hb); have hgW2 := Aside0.mk (show w.heap.size ≤ g2 by rw [hg]; exact HBr.out.size); obtain ⟨hz0, hzf0, hz1, hzf1, hz2, hzf2, hz3, hzf3, hz4, hzf4, hz5, hzf5, hz6, hzf6, hz7, hzf7⟩ := cells8 hbox; clear hbox hb hg))
              go_ret
              exact ⟨by rw [← HF.out]; simp, (below_set (below_set (below_set (below_set (below_set (below_set (below_set (below_set HB3.out hgW2.out (j := 0)) hgW2.out (j := 1)) hgW2.out (j := 2)) hgW2.out (j := 3)) hgW2.out (j := 4)) hgW2.out (j := 5)) hgW2.out (j := 6)) hgW2.out (j := 7))⟩
          · rw [if_neg c9] at H
            have c9b : (y.f0 == 9) = false := by simpa using c9
            have c9d : decide (y.f0 = 9) = false := by simpa using c9
            clear c9
            have H := Aside0.mk H
            go_wp2_with (first | ((with_reducible refine gate_dst (N := 4) rfl ?_); refine box_event ?hg (N := 4) ?hd (cs := #[.int .i64 0, .string (⟨#[]⟩ : ByteArray), .int .i64 0, .int .i64 0, .int .i64 0, .int .i64 0, .string (⟨#[]⟩ : ByteArray), .slice none 0 0]) (t := 24) ?hr ?_; (case hd => rfl); (case hg => rfl); (case hr => first | (go_simp; done) | (go_simp; rfl)); intro g2 hg w3 hbox hb; have HB3 := Aside0.mk (below_step HBr.out hb); have hgW2 := Aside0.mk (show w.heap.size ≤ g2 by rw [hg]; exact HBr.out.size); obtain ⟨hz0, hzf0, hz1, hzf1, hz2, hzf2, hz3, hzf3, hz4, hzf4, hz5, hzf5, hz6, hzf6, hz7, hzf7⟩ := cells8 hbox; clear hbox hb hg))
            go_roundg k1
            case measure => have := HK.out; omega
            case rel => exact ⟨wrap64 (i + 1), rfl, H, ⟨by have := HK.out; omega⟩, ⟨(below_set (below_set (below_set (below_set (below_set (below_set (below_set (below_set HB3.out hgW2.out (j := 0)) hgW2.out (j := 1)) hgW2.out (j := 2)) hgW2.out (j := 3)) hgW2.out (j := 4)) hgW2.out (j := 5)) hgW2.out (j := 6)) hgW2.out (j := 7))⟩, trivial⟩
        · rw [if_neg c8] at H
          exact absurd H (by simp)
      · rw [if_neg c7] at H
        obtain rfl := Option.some.inj H
        have c7b := decide_eq_false c7
        clear c7
        go_wp2_with (fail)
        have hi1 : IntsAt (wr.alloc (.cells #[.int .i64 9, .int .i64 4] 3)) wr.heap.size [9, 4] := ints_new wr [9, 4] 3
        refine (show Calls Tryz.prog 37 #[.slice (some ⟨wr.heap.size, 0, none⟩) 2 2] _ (AnyPost _ [9, 4] _) from anyOf_calls wr.heap.size [9, 4] _ (by decide) hi1).mono ?_
        rintro e w1 ⟨b1, rfl, hat, hbb⟩
        have HA1 := Aside0.mk hat
        have HB1 := Aside0.mk (below_step (below_alloc HBr.out (.cells #[.int .i64 9, .int .i64 4] 3)) hbb)
        clear hat hbb hi1
        go_wp2_with (fail)
        refine (any1_calls l A c b1 wr.heap.size [9, 4] _ (Kd.C_below HR.out HB1.out) HC.out HA1.out).mono ?_
        rintro e w2 ⟨rfl, hbb⟩
        have HB2 := Aside0.mk (below_step HB1.out hbb)
        clear hbb
        go_wp2
        go_ret
        exact ⟨by rw [← HF.out]; simp, HB2.out⟩
end Go.Proofs.YtdkepckkihclgaaGreatDoor.PNodeChecks
namespace Go.Proofs.YtdkepckkihclgaaGreatDoor.HRange
open Go.RowKit Go.Shelf
def StableC {β : Type} (c : Nat) (J : β → World → Prop) : Prop := ∀ s W W', J s W → W.grownBy W' (some c) → J s W'
def StableI {β : Type} (c B : Nat) (I : β → World → Prop) : Prop := ∀ s W W' row, I s W → W.grownBy W' row → (∀ r, row = some r → r = c ∨ (B ≤ r ∧ ∃ o : Obj, W.heap[r]? = some o ∧ o.isCells = false)) → I s W'
theorem StableI.c {β : Type} {c B : Nat} {I : β → World → Prop} (h : StableI c B I) : StableC c I := fun s W W' hs hg => h s W W' _ hs hg (fun r e => .inl (by cases e; rfl))
theorem StableI.putObj {β : Type} {c B : Nat} {I : β → World → Prop} (h : StableI c B I) {s : β} {W : World} {l : Nat} {o : Obj} (o' : Obj) (hs : I s W) (hB : B ≤ l) (hl : W.heap[l]? = some o) (ho : o.isCells = false) : I s (W.putObj l o') :=
 h s W _ (some l) hs (grownBy_putObj' W l o') (fun r e => by cases e; exact .inr ⟨hB, o, hl, ho⟩)
theorem StableI.alloc {β : Type} {c B : Nat} {I : β → World → Prop} (h : StableI c B I) {s : β} {W : World} (o : Obj) (hs : I s W) : I s (W.alloc o) :=
 h s W _ none hs (World.grownBy_alloc W o none) (fun r e => by cases e)
def KeepL (ks : List Nat) (W W' : World) : Prop := ∀ k, k ∈ ks → W'.heap[k]? = W.heap[k]?
theorem KeepL.trans {ks : List Nat} {A B C : World} (h : KeepL ks A B) (k : KeepL ks B C) : KeepL ks A C := fun i hi => (k i hi).trans (h i hi)
theorem KeepL.putObj {ks : List Nat} (W : World) (l : Nat) (o : Obj) (h : ∀ k, k ∈ ks → k ≠ l) : KeepL ks W (W.putObj l o) := fun i hi => World.putObj_heap_other (h i hi)
def SeqC {α : Type} (F : Fence) (n : Nat) (P : Program) (g : Nat) (lb : Array Value) (encs : α → Array Value) (c : Nat) (ks : List Nat) (xs : List α) (w : World) : Prop :=
 ∀ (l : Nat) (J Jx : List α → World → Prop) (W : World), Below w.heap.size w W → StableC c J → StableC c Jx →
  (∀ pre x rest W1, pre ++ x :: rest = xs → J pre W1 → YieldAt F (n - 1) P l (encs x) W1 fun e W' =>
   (e = .returned (.bool true) ∧ J (pre ++ [x]) W' ∧ KeepL ks W1 W') ∨ (e = .returned (.bool false) ∧ Jx (pre ++ [x]) W')) →
  J [] W →
  CallsIn F n P g (#[.func (.yield l) #[] #[]] ++ lb) W fun e W' => (∃ v, e = .returned v) ∧ (J xs W' ∨ ∃ pre, pre <+: xs ∧ Jx pre W')
def postC {α : Type} (B : Nat) (ks : List Nat) (I : List α → World → Prop) (Ix : Code → List α → World → Prop) (xs : List α) (W : World) : Exit → Act → World → Prop
 | .normal, _, W' => KeepsFrom B W W' ∧ KeepL ks W W' ∧ I xs W'
 | .ret, _, W' => KeepsFrom B W W' ∧ Ix .ret xs W'
 | .exit id, _, W' => KeepsFrom B W W' ∧ Ix (.exit id) xs W'
 | .goto t, _, W' => KeepsFrom B W W' ∧ Ix (.goto t) xs W'
 | .panic _, _, _ => False
 | .outgrown, _, _ => False
variable {F : Fence} {n : Nat} {P : Program}
theorem wpIn_rangeFunc_c {α : Type} {g : Operand} {ps : Array Tmp} {assign body : Code} {Q : Exit → Act → World → Prop} {a : Act} {w : World}
  (hro : F.round = none) (h1 : 1 ≤ n) {gf : Nat} {lb : Array Value} (hg : a.eval g = .func (.func gf) #[] lb) (hFg : F.fn gf) (eg : ∀ args w, (callFunc gf args).run P w = .ok (.enter gf args) w)
  {encs : α → Array Value} {c : Nat} {ks : List Nat} {xs : List α} {w0 : World} (hseq : SeqC F (n - 1) P gf lb encs c ks xs w0)
  (hb0 : Below w0.heap.size w0 w) (hc : c < w.heap.size) (hks : ∀ k, k ∈ ks → k < w.heap.size) (hps : ∀ x, (encs x).size = ps.size)
  (I : List α → World → Prop) (Ix : Code → List α → World → Prop) (hI : StableI c w.heap.size I) (hIx : ∀ c', StableI c w.heap.size (Ix c')) (h0 : I [] w) (a₁ : α → Act)
  (hassign : ∀ (l : Nat) (x : α) (W : World) (K : Act → World → Prop), K (a₁ x) W →
   assign.wpIn (F.inRound l) (n - 1 - 1) P (Exit.then K (fun _ _ _ => False)) { tmps := (ps.zip (encs x)).foldl (fun t (p, v) => t.setIfInBounds p v) a.tmps, defers := [] } W)
  (hbody : ∀ (l : Nat) (pre : List α) (x : α) (rest : List α) (W : World), w.heap.size ≤ l → (∃ r, W.heap[l]? = some (.loop r)) → pre ++ x :: rest = xs → I pre W → body.wpIn (F.inRound l) (n - 1 - 1) P (postC w.heap.size ks I Ix (pre ++ [x]) W) (a₁ x) W)
  (hdone : ∀ (D : Nat) (W : World), w.heap.size ≤ D → I xs W → W.heap[D]? = some (.deferred (some [])) → Q .normal { a with defers := { target := .collected D, args := #[] } :: a.defers } W)
  (hstop : ∀ (D : Nat) (c' : Code) (pre : List α) (W : World), w.heap.size ≤ D → pre <+: xs → Ix c' pre W → W.heap[D]? = some (.deferred (some [])) → c'.wpIn F n P Q { a with defers := { target := .collected D, args := #[] } :: a.defers } W) :
  (Code.rangeFunc g ps assign body).wpIn F n P Q a w := by
 refine wpIn_rangeFunc ?_
 intro fn hfn
 rw [hro]
 obtain ⟨rec, hrec⟩ : ∃ rec : LoopState → Option Code → Loop, rec = fun st pe => { state := st, pending := pe, fn, tmps := a.tmps, params := ps, assign, body, defers := w.heap.size } := ⟨_, rfl⟩
 obtain ⟨W1, hW1⟩ : ∃ W1, (w.alloc (.deferred (some []))).alloc (.loop (rec .ready none)) = W1 := ⟨_, rfl⟩
 have hL1 : W1.heap[w.heap.size + 1]? = some (.loop (rec .ready none)) := by
  rw [← hW1]; have := World.alloc_heap_new (w.alloc (.deferred (some []))) (.loop (rec .ready none)); rwa [World.size_alloc] at this
 have hK1 : W1.heap[w.heap.size]? = some (.deferred (some [])) := by
  rw [← hW1]; exact (Below.heap_alloc _ _ _ (by simp)).trans (World.alloc_heap_new w _)
 have hI1 : I [] W1 := by rw [← hW1]; exact hI.alloc _ (hI.alloc _ h0)
 have hb1 : Below w0.heap.size w0 W1 := by
  rw [← hW1]; exact hb0.trans ((((Below.refl _ w).alloc (Nat.le_refl _) _).alloc (by simp) _).mono hb0.size)
 have keep : ∀ {A B : World} {k : Nat} {o : Obj}, A.grownBy B (some c) → w.heap.size ≤ k → A.heap[k]? = some o → B.heap[k]? = some o := fun hgr hk ho =>
  (hgr.block _ (Array.getElem?_eq_some_iff.1 ho).1 (by intro e; cases e; omega)).trans ho
 refine ⟨w.heap.size + 1, [{ target := .collected w.heap.size, args := #[] }], W1, { target := .fn (.func gf) lb, args := #[.func (.yield (w.heap.size + 1)) #[] #[]] }, W1, gf,
  #[.func (.yield (w.heap.size + 1)) #[] #[]] ++ lb, W1, ?_, ?_, ?_, ?_, fun _ => h1, ?_⟩
 ·rw [← hW1, hrec]; exact run_enterLoop_outer _ _ _ _ _
 ·simp only [resolve, hg]
  simp [go_sem]
 ·intro f' hf'; simp [Target.leads] at hf'; subst hf'; exact hFg
 ·simp [invoke, go_sem, eg]
 ·refine (hseq (w.heap.size + 1)
   (fun pre W => I pre W ∧ W.heap[w.heap.size + 1]? = some (.loop (rec .ready none)) ∧ W.heap[w.heap.size]? = some (.deferred (some [])))
   (fun pre W => ∃ c', Ix c' pre W ∧ W.heap[w.heap.size + 1]? = some (.loop (rec .done (some c'))) ∧ W.heap[w.heap.size]? = some (.deferred (some [])))
   W1 hb1
   (fun s A B hs hgr => ⟨hI.c s A B hs.1 hgr, keep hgr (by omega) hs.2.1, keep hgr (Nat.le_refl _) hs.2.2⟩)
   (fun s A B hs hgr => by
    obtain ⟨c', hc', hl, hk⟩ := hs
    exact ⟨c', (hIx c').c s A B hc' hgr, keep hgr (by omega) hl, keep hgr (Nat.le_refl _) hk⟩)
   ?_ ⟨hI1, hL1, hK1⟩).mono ?_
  ·-- one round
   rintro pre x rest W hxs ⟨hi, hl, hk⟩
   have hlt : w.heap.size + 1 < W.heap.size := (Array.getElem?_eq_some_iff.1 hl).1
   have hy := run_yield (P := P) (args := encs x) hl (by rw [hrec]; exact hps x)
   rw [hrec] at hy
   refine ⟨fn, _, assign, body, hy, roundIn_of_wpIn hfn (hassign _ x W _ ?_)⟩
   clear hy
   refine ⟨_, run_beginRound hl (by rw [hrec]), ?_⟩
   have hl2 : (W.putObj (w.heap.size + 1) (.loop { rec .ready none with state := .busy })).heap[w.heap.size + 1]? = some (.loop { rec .ready none with state := .busy }) := World.putObj_heap_same hlt
   have hk2 : (W.putObj (w.heap.size + 1) (.loop { rec .ready none with state := .busy })).heap[w.heap.size]? = some (.deferred (some [])) := (World.putObj_heap_other (by omega)).trans hk
   have hkl : ∀ (X : World) (o : Obj), KeepL ks X (X.putObj (w.heap.size + 1) o) := fun X o => KeepL.putObj X _ o (fun k hk' => by have := hks k hk'; omega)
   refine wpIn_mono (hbody _ pre x rest _ (by omega) ⟨_, hl2⟩ hxs (hI.putObj _ hi (by omega) hl rfl)) ?_
   have fin : ∀ (jump : Option Code) (W3 : World), KeepsFrom w.heap.size (W.putObj (w.heap.size + 1) (.loop { rec .ready none with state := .busy })) W3 →
     (Instr.endRound (w.heap.size + 1) jump).run P W3 = .ok (.bool jump.isNone) (W3.putObj (w.heap.size + 1) (.loop (rec (if jump.isNone then .ready else .done) jump))) ∧
     W3.heap[w.heap.size + 1]? = some (.loop { rec .ready none with state := .busy }) ∧
     (W3.putObj (w.heap.size + 1) (.loop (rec (if jump.isNone then .ready else .done) jump))).heap[w.heap.size + 1]? = some (.loop (rec (if jump.isNone then .ready else .done) jump)) ∧
     (W3.putObj (w.heap.size + 1) (.loop (rec (if jump.isNone then .ready else .done) jump))).heap[w.heap.size]? = some (.deferred (some [])) := fun jump W3 hk3 => by
    have hl3 := hk3.same _ _ (by omega) hl2 rfl
    have := run_endRound (P := P) jump hl3
    rw [hrec] at this ⊢
    exact ⟨this, by rw [hrec] at hl3; exact hl3, World.putObj_heap_same (Array.getElem?_eq_some_iff.1 hl3).1, (World.putObj_heap_other (by omega)).trans (hk3.same _ _ (Nat.le_refl _) hk2 rfl)⟩
   rintro e a3 W3 hp
   cases e with
   | normal =>
    obtain ⟨hk3, hkp3, hi3⟩ := hp
    obtain ⟨hr, hl3, hl4, hk4⟩ := fin none W3 hk3
    exact ⟨_, _, hr, .inl ⟨rfl, ⟨hI.putObj _ hi3 (by omega) hl3 rfl, hl4, hk4⟩, ((hkl W _).trans hkp3).trans (hkl W3 _)⟩⟩
   | ret =>
    obtain ⟨hk3, hi3⟩ := hp
    obtain ⟨hr, hl3, hl4, hk4⟩ := fin (some .ret) W3 hk3
    exact ⟨_, _, hr, .inr ⟨rfl, .ret, (hIx _).putObj _ hi3 (by omega) hl3 rfl, hl4, hk4⟩⟩
   | exit id =>
    obtain ⟨hk3, hi3⟩ := hp
    obtain ⟨hr, hl3, hl4, hk4⟩ := fin (some (.exit id)) W3 hk3
    exact ⟨_, _, hr, .inr ⟨rfl, .exit id, (hIx _).putObj _ hi3 (by omega) hl3 rfl, hl4, hk4⟩⟩
   | goto t =>
    obtain ⟨hk3, hi3⟩ := hp
    obtain ⟨hr, hl3, hl4, hk4⟩ := fin (some (.goto t)) W3 hk3
    exact ⟨_, _, hr, .inr ⟨rfl, .goto t, (hIx _).putObj _ hi3 (by omega) hl3 rfl, hl4, hk4⟩⟩
   | panic ch => exact hp.elim
   | outgrown => exact hp.elim
  ·rintro e W2 ⟨⟨v, rfl⟩, (⟨hi, hl, hk⟩ | ⟨pre, hSp, c', hi, hl, hk⟩)⟩
   ·exact ⟨none, _, by have := run_endLoop (P := P) hl (by rw [hrec]; simp); rw [hrec] at this; exact this, hdone _ _ (Nat.le_refl _) (hI.putObj _ hi (by omega) hl rfl) ((World.putObj_heap_other (by omega)).trans hk)⟩
   ·exact ⟨some c', _, by have := run_endLoop (P := P) hl (by rw [hrec]; simp); rw [hrec] at this; exact this, hstop _ c' pre _ (Nat.le_refl _) hSp ((hIx c').putObj _ hi (by omega) hl rfl) ((World.putObj_heap_other (by omega)).trans hk)⟩
end Go.Proofs.YtdkepckkihclgaaGreatDoor.HRange
namespace Go.Proofs.YtdkepckkihclgaaGreatDoor.PNodeChecks
open Go.RowKit Go.Proofs.YtdkepckkihclgaaGreatDoorW.PrintWords Go.Proofs.YtdkepckkihclgaaGreatDoorW.PrintLast Go.Proofs.YtdkepckkihclgaaGreatDoorW.PrintMore
set_option linter.unusedVariables false
set_option linter.unusedSimpArgs false
def wordB (a : Int) : Bool := (decide (97 ≤ a) && decide (a ≤ 122)) || (decide (65 ≤ a) && decide (a ≤ 90)) || (decide (48 ≤ a) && decide (a ≤ 57)) || (a == 95)
set_option maxHeartbeats 8000000 in
theorem word_calls (a : Int) (w : World) : Calls Tryz.prog 91 #[.int .i32 a] w fun e w' => e = .returned (.bool (wordB a)) ∧ w' = w := by
  by_cases h1 : 97 ≤ a <;> by_cases h2 : a ≤ 122 <;> by_cases h3 : 65 ≤ a <;> by_cases h4 : a ≤ 90 <;> by_cases h5 : 48 ≤ a <;> by_cases h6 : a ≤ 57 <;> first
  | (exfalso; omega)
  | ((first | have g1 := decide_eq_true h1 | have g1 := decide_eq_false h1)
     (first | have g2 := decide_eq_true h2 | have g2 := decide_eq_false h2)
     (first | have g3 := decide_eq_true h3 | have g3 := decide_eq_false h3)
     (first | have g4 := decide_eq_true h4 | have g4 := decide_eq_false h4)
     (first | have g5 := decide_eq_true h5 | have g5 := decide_eq_false h5)
     (first | have g6 := decide_eq_true h6 | have g6 := decide_eq_false h6)
     go_enter Tryz.func91, Tryz.ntmps91
     go_wp2
     go_ret
     exact ⟨by first | (simp [wordB, h1, h2, h3, h4, h5, h6]; done) | (simp [wordB, h1, h2, h3, h4, h5, h6]; omega), rfl⟩)
def wordU (b : UInt8) : Bool := wordB b.toNat
def identB (s : ByteArray) : Bool := s.data.toList.all wordU && (!s.data.toList.isEmpty && decide (s.size ≤ 200) && (decide (bt s 0 < 48) || decide (57 < bt s 0)))
theorem wordB_high (a : Int) (h : 128 ≤ a) : wordB a = false := by
  simp [wordB]
  omega
theorem decode_ascii (s : ByteArray) (pos : Nat) (h : pos < s.size) (ha : (s[pos]'h).toNat < 128) : Utf8.decode s pos = ((s[pos]'h).toNat, 1) := by
  simp only [Utf8.decode, get_at s pos h, ha, if_true]
set_option maxHeartbeats 8000000 in
theorem names_Ident.calls0 (s : ByteArray) (w : World) (hs : s.size < 9223372036854775807) :
    Calls Tryz.prog 69 #[.string s] w fun e w' => e = .returned (.bool (identB s)) ∧ Below w.heap.size w w' := by
  go_enter Tryz.func69, Tryz.ntmps69
  go_wp2
  go_loopw [4] (fun n w' => ∃ (pos : Nat), w' = w.iter s pos ∧ pos ≤ s.size ∧ Aside0 ((s.data.toList.take pos).all wordU = true)) (fun _ w' => s.size - w'.iterPos w.heap.size)
  case atStart => exact ⟨0, rfl, Nat.zero_le _, ⟨by simp⟩⟩
  case round =>
    obtain ⟨pos, rfl, hp0, ha⟩ := hrel
    by_cases hp : pos < s.size
    · have hnx : ∀ ty, (Instr.next (.pointer (some ⟨w.heap.size, 0, none⟩)) true ty).run Tryz.prog (w.iter s pos) = _ := fun ty => run_next_any w s pos ty hp
      have hsz : s.data.toList.length = s.size := by simp
      have hb0 := bt_at s pos (by simpa using hp)
      have hget : s.data.toList.drop pos = s[pos] :: s.data.toList.drop (pos + 1) := by
        rw [List.drop_eq_getElem_cons (by rw [hsz]; exact hp)]; rfl
      by_cases hw : (s[pos]'hp).toNat < 128 ∧ wordU (s[pos]'hp) = true
      · have hd := decode_ascii s pos hp hw.1
        have hW : wordB ((Utf8.decode s pos).1 : Int) = true := by rw [hd]; exact hw.2
        have hT : (s.data.toList.take (pos + 1)).all wordU = true := by
          rw [List.take_succ_eq_append_getElem (by rw [hsz]; exact hp), List.all_append, ha.out]
          have : s.data.toList[pos]'(by rw [hsz]; exact hp) = s[pos]'hp := rfl
          simp [this, hw.2]
        have HD := Aside0.mk hd
        have HT := Aside0.mk hT
        have HW := Aside0.mk hW
        clear hd hT hW hget hb0 hw hsz
        go_wp2_with (go_at_call 91; refine (word_calls _ _).mono ?_; rintro e w' ⟨rfl, rfl⟩; rw [HW.out])
        go_roundw
        case rel =>
          rw [HD.out]
          exact ⟨pos + 1, rfl, hp, HT⟩
        case measure =>
          rw [HD.out]
          simp
          omega
      · have hW : wordB ((Utf8.decode s pos).1 : Int) = false := by
          by_cases h1 : (s[pos]'hp).toNat < 128
          · rw [decode_ascii s pos hp h1]
            have : ¬ wordU (s[pos]'hp) = true := fun h => hw ⟨h1, h⟩
            simpa [wordU] using this
          · have := (decode_high s pos hp (by omega)).1
            exact wordB_high _ (by omega)
        have hF : identB s = false := by
          have hnw : wordU (s[pos]'hp) = false := by
            by_cases h1 : (s[pos]'hp).toNat < 128
            · have : ¬ wordU (s[pos]'hp) = true := fun h => hw ⟨h1, h⟩
              simpa using this
            · exact wordB_high _ (by omega)
          have : s.data.toList.all wordU = false := by
            rw [← List.take_append_drop pos s.data.toList, List.all_append, hget, List.all_cons, hnw]; simp
          simp [identB, this]
        have HF := Aside0.mk hF
        have HW := Aside0.mk hW
        clear hF hW hget hb0 hw hsz
        go_wp2_with (go_at_call 91; refine (word_calls _ _).mono ?_; rintro e w' ⟨rfl, rfl⟩; rw [HW.out])
        go_ret
        exact ⟨by rw [HF.out]; rfl, (Below.refl _ _).alloc (Nat.le_refl _) _⟩
    · have hnx : ∀ ty, (Instr.next (.pointer (some ⟨w.heap.size, 0, none⟩)) true ty).run Tryz.prog (w.iter s pos) = _ := fun ty => run_next_end w s pos ty hp
      have hall : s.data.toList.all wordU = true := by
        have := ha.out
        rwa [List.take_of_length_le (by simp; omega)] at this
      have HA := Aside0.mk hall
      clear hall ha
      have HB : Aside0 (Below w.heap.size w (w.iter s pos)) := ⟨(Below.refl _ _).alloc (Nat.le_refl _) _⟩
      by_cases h0 : s.size = 0
      · obtain rfl : s = ⟨#[]⟩ := ByteArray.ext (Array.eq_empty_of_size_eq_zero (show s.data.size = 0 from h0))
        go_wp2
        go_ret
        exact ⟨rfl, HB.out⟩
      · have h0' : (0 : Nat) < s.size := by omega
        have hx := bt_at s 0 h0'
        have hl : s.data.toList.length = s.size := by simp
        have hne : ¬ s.toList = [] := fun h => by
          rw [ByteArray.toList_eq] at h
          rw [h] at hl
          simp at hl
          omega
        have hE : s.toList.isEmpty = false := by
          cases hc : s.toList with
          | nil => exact absurd hc hne
          | cons a b => rfl
        have HE : Aside0 (identB s = (decide (s.size ≤ 200) && (decide (bt s 0 < 48) || decide (57 < bt s 0)))) := ⟨by
          unfold identB
          rw [HA.out, ← ByteArray.toList_eq, hE]
          simp⟩
        have hx0 : bt s 0 = ((s[0]'h0').toNat : Int) := by simp [bt, h0']
        have HX := Aside0.mk hx0
        clear hx hx0 hl
        go_wp2
        all_goals
          go_ret
          refine ⟨?_, HB.out⟩
          rw [HE.out, HX.out]
          have h0x := h0'
          first
          | rfl
          | (simp_all; done)
          | (simp_all; omega)
          | (simp [*]; done)
          | (simp [*]; omega)
end Go.Proofs.YtdkepckkihclgaaGreatDoor.PNodeChecks
namespace Go.Proofs.YtdkepckkihclgaaGreatDoor.PNodeChecks
open Go.RowKit Go.Shelf Go.Proofs.YtdkepckkihclgaaGreatDoorW.PrintWords Go.Proofs.YtdkepckkihclgaaGreatDoorW.PrintLast Go.Proofs.YtdkepckkihclgaaGreatDoorW.PrintMore Go.Proofs.YtdkepckkihclgaaGreatDoor.HRange
attribute [local go_sem] Oper.semAt_some
set_option linter.unusedVariables false
set_option linter.unusedSimpArgs false
def splitN : Nat → ByteArray → List ByteArray
 | 0, s => [s]
 | n + 1, s => if Lib.indexByte s.data.toList 46 < 0 then [s] else s.extract 0 (Lib.indexByte s.data.toList 46).toNat :: splitN n (s.extract ((Lib.indexByte s.data.toList 46).toNat + 1) s.size)
def cellSize (w : World) (b : Nat) : Nat := match w.cell? ⟨b, 0, none⟩ with | some (.string s) => s.size | _ => 0
theorem cellSize_of {w : World} {b : Nat} {s : ByteArray} {t : TypeId} (h : w.heap[b]? = some (.cells #[.string s] t (0, 0))) : cellSize w b = s.size := by
 have : w.cell? ⟨b, 0, none⟩ = some (.string s) := (blk_cell h 0).trans rfl
 simp [cellSize, this]
theorem setCell_grown (w : World) (b j : Nat) (v : Value) : w.grownBy (w.setCell ⟨b, j, none⟩ v) (some b) :=
 ⟨rfl, rfl, rfl, by simp, fun k _ hk => Below.heap_setCell w ⟨b, j, none⟩ v k (fun e => hk (by rw [e]))⟩
set_option maxHeartbeats 4000000 in
theorem split_seq (n : Nat) (hn : 1 ≤ n) (bs bp bv : Nat) (s : ByteArray) (w : World) (hs : s.size < 4611686018427387904)
  (h1 : w.heap[bs]? = some (.cells #[.string s] 9 (0, 0))) (h2 : w.heap[bp]? = some (.cells #[.string ⟨#[46]⟩] 9 (0, 0))) (h3 : w.heap[bv]? = some (.cells #[.int .i64 0] 3 (0, 0))) (hne : bs ≠ bp) :
  SeqC Fence.wide n Tryz.prog 103 #[.pointer (some ⟨bp, 0, none⟩), .pointer (some ⟨bs, 0, none⟩), .pointer (some ⟨bv, 0, none⟩)] (fun x => #[.string x]) bs [bs, bp, bv] (splitN s.size s) w := by
 intro l J Jx W hW hJ hJx hY h0
 refine callsIn_of_wp Tryz.func103 rfl trivial ?_ rfl
 simp only [Tryz.ntmps103, List.size_toArray, List.length_cons, List.length_nil, Nat.reduceAdd, Nat.reduceSub, Array.replicate_succ, Array.replicate_zero, List.push_toArray, List.append_toArray, List.nil_append, List.cons_append]
 have B1 := blk_below h1 hW
 have B2 := blk_below h2 hW
 have B3 := blk_below h3 hW
 have H1 := Aside0.mk B1
 have H2 := Aside0.mk B2
 have H3 := Aside0.mk B3
 have hc2 : W.cell? ⟨bp, 0, none⟩ = some (.string ⟨#[46]⟩) := (blk_cell B2 0).trans rfl
 have HY := Aside0.mk hY
 have H0 := Aside0.mk h0
 clear B1 B2 B3 hY h0 h1 h2 h3 hW
 gi_wp2
 gi_loopw [7] (fun v7 wr => ∃ (pre : List ByteArray) (rest : ByteArray) (m : Nat), Aside0 (wr.heap[bs]? = some (.cells #[.string rest] 9 (0, 0))) ∧ Aside0 (wr.heap[bp]? = some (.cells #[.string ⟨#[46]⟩] 9 (0, 0))) ∧ Aside0 (wr.heap[bv]? = some (.cells #[.int .i64 0] 3 (0, 0))) ∧ rest.size ≤ m ∧ rest.size ≤ s.size ∧ Aside0 (splitN s.size s = pre ++ splitN m rest) ∧ Aside0 (J pre wr))
  (fun v7 wr => cellSize wr bs)
 case atStart => exact ⟨[], s, s.size, H1, H2, H3, Nat.le_refl _, Nat.le_refl _, ⟨rfl⟩, H0⟩
 case round =>
  clear H1 H2 H3 hc2 H0
  obtain ⟨pre, rest, m, H1, H2, H3, hm, hle, HS, HJ'⟩ := hrel
  have hc1 : wr.cell? ⟨bs, 0, none⟩ = some (.string rest) := (blk_cell H1.out 0).trans rfl
  have hc2 : wr.cell? ⟨bp, 0, none⟩ = some (.string ⟨#[46]⟩) := (blk_cell H2.out 0).trans rfl
  have hc3 : wr.cell? ⟨bv, 0, none⟩ = some (.int .i64 0) := (blk_cell H3.out 0).trans rfl
  have hf1 := blk_frozen H1.out 0
  have hge := Lib.indexByte_ge rest.data.toList 46
  have hcs := Aside0.mk (cellSize_of H1.out)
  have hl : rest.data.toList.length = rest.size := by simp
  by_cases hi : Lib.indexByte rest.data.toList 46 < 0
  ·have hlast : splitN m rest = [rest] := by
    cases m with
    | zero => rfl
    | succ m => simp [splitN, hi]
   have HL := Aside0.mk hlast
   have hib : decide (Lib.indexByte rest.data.toList 46 < 0) = true := decide_eq_true hi
   obtain ⟨fn, tmps, assign, body, hy, hR⟩ := HY.out pre rest [] wr (by rw [HS.out, HL.out]) HJ'.out
   have HR := Aside0.mk hR
   clear hlast hi hR
   gi_wp2_with (refine ⟨trivial, ?_⟩; gi_at_call 105; refine callsIn_wide.2 ((Tryz.strings_Index_one rest 46 _).mono ?_); rintro e w' ⟨rfl, rfl⟩)
   refine HR.out.mono ?_
   rintro e W3 (⟨rfl, hJ3, hk3⟩ | ⟨rfl, hJx3⟩)
   ·have HJ3 := Aside0.mk hJ3
    clear hJ3 hk3
    gi_wp2
    refine bodyPost_end (results_none rfl _ _ _) rfl ?_
    exact ⟨⟨_, rfl⟩, .inl (by rw [HS.out, HL.out]; exact HJ3.out)⟩
   ·have HJ3 := Aside0.mk hJx3
    clear hJx3
    gi_wp2
    refine bodyPost_end (results_none rfl _ _ _) rfl ?_
    exact ⟨⟨_, rfl⟩, .inr ⟨pre ++ [rest], by rw [HS.out, HL.out]; exact List.prefix_refl _, HJ3.out⟩⟩
  ·obtain ⟨m, rfl⟩ : ∃ m', m = m' + 1 := by
    obtain ⟨o, ho⟩ := Int.eq_ofNat_of_zero_le (Int.not_lt.mp hi)
    have := (Lib.indexByte_some ho).1
    have := (List.getElem?_eq_some_iff.mp this).1
    exact ⟨m - 1, by omega⟩
   have hstep : splitN (m + 1) rest = rest.extract 0 (Lib.indexByte rest.data.toList 46).toNat :: splitN m (rest.extract ((Lib.indexByte rest.data.toList 46).toNat + 1) rest.size) := by
    simp [splitN, hi]
   obtain ⟨o, ho⟩ := Int.eq_ofNat_of_zero_le (Int.not_lt.mp hi)
   have hlt : o < rest.size := by
    have := (Lib.indexByte_some ho).1
    have := (List.getElem?_eq_some_iff.mp this).1
    omega
   rw [ho] at hstep
   simp only [Int.toNat_natCast] at hstep
   have HST := Aside0.mk hstep
   obtain ⟨ix, hix⟩ : ∃ ix : Int, Lib.indexByte rest.data.toList 46 = ix := ⟨_, rfl⟩
   have hib : decide (ix < 0) = false := by rw [← hix]; exact decide_eq_false hi
   have hoi : ix = o := by rw [← hix]; exact ho
   subst hoi
   have h10 : (0 : Int) ≤ (o : Int) := by omega
   have h11 : (o : Int) ≤ (rest.size : Int) := by omega
   have h12 : (0 : Int) ≤ (o : Int) + 1 := by omega
   have h13 : (o : Int) + 1 ≤ (rest.size : Int) := by omega
   have hsz : (rest.size : Int) ≤ 4611686018427387904 := by omega
   obtain ⟨fn, tmps, assign, body, hy, hR⟩ := HY.out pre (rest.extract 0 o) (splitN m (rest.extract (o + 1) rest.size)) wr (by rw [HS.out, HST.out]) HJ'.out
   have HR := Aside0.mk hR
   have HO := Aside0.mk hlt
   have HI := Aside0.mk ho
   clear hstep hi hR ho hlt hge hl hix
   gi_wp2_with (refine ⟨trivial, ?_⟩; gi_at_call 105; refine callsIn_wide.2 ((Tryz.strings_Index_one rest 46 _).mono ?_); rintro e w' ⟨rfl, rfl⟩; rw [HI.out])
   refine HR.out.mono ?_
   rintro e W3 (⟨rfl, hJ3, hk3⟩ | ⟨rfl, hJx3⟩)
   ·have HJ3 := Aside0.mk hJ3
    have G1 := Aside0.mk ((hk3 bs (by simp)).trans H1.out)
    have G2 := Aside0.mk ((hk3 bp (by simp)).trans H2.out)
    have G3 := Aside0.mk ((hk3 bv (by simp)).trans H3.out)
    have hc1 : W3.cell? ⟨bs, 0, none⟩ = some (.string rest) := (blk_cell G1.out 0).trans rfl
    have hc2 : W3.cell? ⟨bp, 0, none⟩ = some (.string ⟨#[46]⟩) := (blk_cell G2.out 0).trans rfl
    have hf1 := blk_frozen G1.out 0
    clear hJ3 hk3
    gi_wp2
    go_roundw
    case rel =>
     refine ⟨pre ++ [rest.extract 0 o], rest.extract (o + 1) rest.size, m, ⟨blk_put G1.out 0 _ rfl⟩, ⟨blk_far G2.out hne.symm _⟩, ⟨blk_far G3.out (blk_ne G3.out G1.out (by decide)) _⟩, ?_, ?_, ⟨by rw [HS.out, HST.out]; simp⟩, ⟨hJ _ _ _ HJ3.out (setCell_grown _ _ _ _)⟩⟩
     ·simp; omega
     ·simp; omega
    case measure =>
     rw [hcs.out, cellSize_of (blk_put G1.out 0 _ rfl)]
     simp
     have := HO.out
     omega
   ·have HJ3 := Aside0.mk hJx3
    clear hJx3
    gi_wp2
    refine bodyPost_ret (results_none rfl _ _ _) rfl ?_
    exact ⟨⟨_, rfl⟩, .inr ⟨pre ++ [rest.extract 0 o], by rw [HS.out, HST.out]; exact ⟨splitN m (rest.extract (o + 1) rest.size), by simp⟩, HJ3.out⟩⟩
theorem splitSeq_calls (s p : ByteArray) (w : World) :
  Calls Tryz.prog 90 #[.string s, .string p, .int .i64 0] w fun e w' => e = .returned (.func (.func 103) #[] #[.pointer (some ⟨w.heap.size + 1, 0, none⟩), .pointer (some ⟨w.heap.size, 0, none⟩), .pointer (some ⟨w.heap.size + 2, 0, none⟩)]) ∧
   w' = ((w.alloc (.cells #[.string s] 9)).alloc (.cells #[.string p] 9)).alloc (.cells #[.int .i64 0] 3) := by
 go_enter Tryz.func90, Tryz.ntmps90
 go_wp2
 go_ret
 exact ⟨rfl, rfl⟩
theorem SplitSeq_calls (s p : ByteArray) (w : World) :
  Calls Tryz.prog 68 #[.string s, .string p] w fun e w' => e = .returned (.func (.func 103) #[] #[.pointer (some ⟨w.heap.size + 1, 0, none⟩), .pointer (some ⟨w.heap.size, 0, none⟩), .pointer (some ⟨w.heap.size + 2, 0, none⟩)]) ∧
   w' = ((w.alloc (.cells #[.string s] 9)).alloc (.cells #[.string p] 9)).alloc (.cells #[.int .i64 0] 3) := by
 go_enter Tryz.func68, Tryz.ntmps68
 go_wp2_with (go_at_call 90; refine (splitSeq_calls _ _ _).mono ?_; rintro e w' ⟨rfl, rfl⟩)
 go_ret
 exact ⟨rfl, rfl⟩
theorem splitN_size : ∀ (m : Nat) (s x : ByteArray), x ∈ splitN m s → x.size ≤ s.size
 | 0, s, x, h => by simp [splitN] at h; subst h; exact Nat.le_refl _
 | m + 1, s, x, h => by
  unfold splitN at h
  split at h
  ·simp at h; subst h; exact Nat.le_refl _
  ·rcases List.mem_cons.mp h with rfl | h
   ·simp; omega
   ·have := splitN_size m _ x h
    simp at this
    omega
def fullB (s : ByteArray) : Bool := (splitN s.size s).all identB && decide (s.size ≤ 1000)
set_option maxHeartbeats 4000000 in
theorem names_Full.calls0 (s : ByteArray) (w : World) (hs : s.size < 4611686018427387904) :
  Calls Tryz.prog 34 #[.string s] w fun e w' => e = .returned (.bool (fullB s)) ∧ Below w.heap.size w w' := by
 refine (callsIn_wide (n := 5)).1 ?_
 refine callsIn_of_wp_marks Tryz.func34 rfl trivial ?_ rfl
 simp only [Tryz.ntmps34, List.size_toArray, List.length_cons, List.length_nil, Nat.reduceAdd, Nat.reduceSub, Array.replicate_succ, Array.replicate_zero, List.push_toArray, List.append_toArray, List.nil_append, List.cons_append]
 have hw := Aside0.mk (blk_new w (.cells #[.bool false] 4))
 obtain ⟨w1, hw1⟩ : ∃ w1, w.alloc (.cells #[.bool false] 4) = w1 := ⟨_, rfl⟩
 have HB1 := Aside0.mk (show Below w.heap.size w w1 from hw1 ▸ below_alloc (Below.refl _ w) _)
 have HR1 := Aside0.mk (show w1.heap[w.heap.size]? = some (.cells #[.bool false] 4 (0, 0)) from hw1 ▸ hw.out)
 have HS1 := Aside0.mk (show w1.heap.size = w.heap.size + 1 from hw1 ▸ World.size_alloc w _)
 gi_wp2_with (refine ⟨trivial, ?_⟩; gi_at_call 68; refine callsIn_wide.2 ((SplitSeq_calls _ _ _).mono ?_); rintro e w' ⟨rfl, rfl⟩)
 obtain ⟨w2, hw2⟩ : ∃ w2, ((w1.alloc (.cells #[.string s] 9)).alloc (.cells #[.string ⟨#[46]⟩] 9)).alloc (.cells #[.int .i64 0] 3) = w2 := ⟨_, rfl⟩
 rw [hw2]
 have HB2 := Aside0.mk (show Below w1.heap.size w1 w2 from hw2 ▸ below_alloc (below_alloc (below_alloc (Below.refl _ w1) _) _) _)
 have hq1 : w2.heap[w1.heap.size]? = some (.cells #[.string s] 9 (0, 0)) := hw2 ▸ blk_alloc (blk_alloc (blk_new w1 _) _) _
 have hq2 : w2.heap[w1.heap.size + 1]? = some (.cells #[.string ⟨#[46]⟩] 9 (0, 0)) := hw2 ▸ blk_alloc (by have := blk_new (w1.alloc (.cells #[.string s] 9)) (.cells #[.string ⟨#[46]⟩] 9); rwa [World.size_alloc] at this) _
 have hq3 : w2.heap[w1.heap.size + 2]? = some (.cells #[.int .i64 0] 3 (0, 0)) := hw2 ▸ (by have := blk_new ((w1.alloc (.cells #[.string s] 9)).alloc (.cells #[.string ⟨#[46]⟩] 9)) (.cells #[.int .i64 0] 3); rwa [World.size_alloc, World.size_alloc] at this)
 have hsz2 : w2.heap.size = w1.heap.size + 3 := by rw [← hw2]; simp
 have hS1 := HS1.out
 have stab : ∀ (B : Prop), StableI w1.heap.size w2.heap.size (fun (pre : List ByteArray) W => Below w.heap.size w W ∧ W.heap[w.heap.size]? = some (.cells #[.bool false] 4 (0, 0)) ∧ (pre.all identB = true ∧ B)) := fun B s' A C row hs' hg hr =>
  ⟨hs'.1.grown hg hs'.1.size (fun k e => by rcases hr k e with rfl | h <;> omega), blk_grown hs'.2.1 hg (fun e => by rcases hr _ e.symm with h | h <;> omega), hs'.2.2⟩
 have stab2 : ∀ (c' : Code), StableI w1.heap.size w2.heap.size (fun (pre : List ByteArray) W => Below w.heap.size w W ∧ W.heap[w.heap.size]? = some (.cells #[.bool false] 4 (0, 0)) ∧ (pre.all identB = false ∧ c' = .ret)) := fun c' s' A C row hs' hg hr =>
  ⟨hs'.1.grown hg hs'.1.size (fun k e => by rcases hr k e with rfl | h <;> omega), blk_grown hs'.2.1 hg (fun e => by rcases hr _ e.symm with h | h <;> omega), hs'.2.2⟩
 have HE := Aside0.mk hS1
 have HZ := Aside0.mk hsz2
 have k1 : w1.heap.size < w2.heap.size := by omega
 have k2 : ∀ k, k ∈ [w1.heap.size, w1.heap.size + 1, w1.heap.size + 2] → k < w2.heap.size := by simp; omega
 have K2 := Aside0.mk k2
 have hsq := Aside0.mk (split_seq 4 (by omega) w1.heap.size (w1.heap.size + 1) (w1.heap.size + 2) s w2 hs hq1 hq2 hq3 (by omega))
 have ST := Aside0.mk (stab True)
 have ST2 := Aside0.mk stab2
 clear hw1 hw2 hS1 hsz2 hq1 hq2 hq3 k2 stab stab2 hw
 refine wpIn_rangeFunc_c rfl (by omega) (gf := 103) (lb := #[.pointer (some ⟨w1.heap.size + 1, 0, none⟩), .pointer (some ⟨w1.heap.size, 0, none⟩), .pointer (some ⟨w1.heap.size + 2, 0, none⟩)]) rfl trivial (enters_of Tryz.func103 (by kernel_rfl) rfl)
  hsq.out (Below.refl _ _) k1 K2.out (fun _ => rfl)
  (fun pre W => Below w.heap.size w W ∧ W.heap[w.heap.size]? = some (.cells #[.bool false] 4 (0, 0)) ∧ (pre.all identB = true ∧ True))
  (fun c' pre W => Below w.heap.size w W ∧ W.heap[w.heap.size]? = some (.cells #[.bool false] 4 (0, 0)) ∧ (pre.all identB = false ∧ c' = .ret))
  ST.out ST2.out ⟨below_step HB1.out HB2.out, blk_below HR1.out HB2.out, by simp, trivial⟩
  (fun x => { tmps := #[.string s, undef, .pointer (some ⟨w.heap.size, 0, none⟩), .string x, .string s, .func (.func 103) #[] #[.pointer (some ⟨w1.heap.size + 1, 0, none⟩), .pointer (some ⟨w1.heap.size, 0, none⟩), .pointer (some ⟨w1.heap.size + 2, 0, none⟩)], .string x, undef, undef, undef, undef, undef, undef], defers := [] }) ?assign ?body ?done ?stop
 case assign =>
  intro l x W K hK
  gi_wp2
  exact hK
 case body =>
  rintro l pre x rest W hl ⟨rr, hlr⟩ hxs ⟨hB, hR, hall, _⟩
  have hx : x.size < 9223372036854775807 := by
   have : x ∈ splitN s.size s := by rw [← hxs]; simp
   have := splitN_size _ _ _ this
   omega
  have hWl : w2.heap.size < W.heap.size := by have := blk_lt hlr; omega
  have HB := Aside0.mk hB
  have HR := Aside0.mk hR
  have HA := Aside0.mk hall
  have HX := Aside0.mk hx
  clear hB hR hall hlr hxs hx
  have kl : ∀ W', Below W.heap.size W W' → KeepL [w1.heap.size, w1.heap.size + 1, w1.heap.size + 2] W W' := fun W' hb k hk => hb.block k (by have := K2.out k hk; omega)
  have KL := Aside0.mk kl
  clear kl
  have kf : ∀ W', Below W.heap.size W W' → KeepsFrom w2.heap.size W W' := fun W' hb => ⟨hb.size, fun k o _ hk _ => blk_below hk hb⟩
  have KF := Aside0.mk kf
  clear kf
  cases hid : identB x
  ·have HI := Aside0.mk hid
   clear hid
   gi_wp2_with (refine ⟨trivial, ?_⟩; gi_at_call 69; refine CallsIn.inRound l (callsIn_wide.2 ((names_Ident.calls0 x W HX.out).mono ?_)); rintro e w' ⟨rfl, hb⟩; rw [HI.out]; have HB3 := Aside0.mk hb; have hrc : w'.cell? ⟨w.heap.size, 0, none⟩ = some (.bool false) := (blk_cell (blk_below HR.out hb) 0).trans rfl; have hrf := blk_frozen (blk_below HR.out hb) 0; clear hb)
   refine ⟨?_, below_set (below_step HB.out HB3.out) (Nat.le_refl _), blk_put (blk_below HR.out HB3.out) 0 _ rfl, by rw [List.all_append, HA.out]; simp [HI.out], rfl⟩
   exact (KF.out _ HB3.out).trans ((KeepsOthers.setCell _ _ _).from _)
  ·have HI := Aside0.mk hid
   clear hid
   gi_wp2_with (refine ⟨trivial, ?_⟩; gi_at_call 69; refine CallsIn.inRound l (callsIn_wide.2 ((names_Ident.calls0 x W HX.out).mono ?_)); rintro e w' ⟨rfl, hb⟩; rw [HI.out]; have HB3 := Aside0.mk hb; clear hb)
   exact ⟨KF.out _ HB3.out, KL.out _ HB3.out, below_step HB.out HB3.out, blk_below HR.out HB3.out, by rw [List.all_append, HA.out]; simp [HI.out], trivial⟩
 case done =>
  rintro D W hD ⟨hB, hR, hall, _⟩ hK
  have HB := Aside0.mk hB
  have HR := Aside0.mk hR
  have HA := Aside0.mk hall
  have HK := Aside0.mk hK
  have hrc : W.cell? ⟨w.heap.size, 0, none⟩ = some (.bool false) := (blk_cell hR 0).trans rfl
  have hrf := blk_frozen hR 0
  clear hB hR hall hK
  gi_wp2
  have hK3 : (W.setCell ⟨w.heap.size, 0, none⟩ (.bool (decide ((s.size : Int) ≤ 1000)))).heap[D]? = some (.deferred (some [])) := (Below.heap_setCell W _ _ D (show D ≠ w.heap.size by have := HB2.out.size; have := HE.out; omega)).trans HK.out
  have hne : D ≠ w.heap.size := by have := HB2.out.size; have := HE.out; omega
  refine ⟨by simp, .inl ⟨_, _, rfl, run_takeDeferred hK3, ?_⟩⟩
  have hR3 : ((W.setCell ⟨w.heap.size, 0, none⟩ (.bool (decide ((s.size : Int) ≤ 1000)))).putObj D (.deferred none)).heap[w.heap.size]? = some (.cells #[.bool (decide ((s.size : Int) ≤ 1000))] 4 (0, 0)) := (World.putObj_heap_other hne.symm).trans (blk_put HR.out 0 _ rfl)
  have hcr : ((W.setCell ⟨w.heap.size, 0, none⟩ (.bool (decide ((s.size : Int) ≤ 1000)))).putObj D (.deferred none)).cell? ⟨w.heap.size, 0, none⟩ = some (.bool (decide ((s.size : Int) ≤ 1000))) := (blk_cell hR3 0).trans rfl
  refine ⟨.bool (decide ((s.size : Int) ≤ 1000)), by simp [results, Tryz.results34, go_sem, hcr], ?_, ?_⟩
  ·unfold fullB
   rw [HA.out, Bool.true_and, show decide ((s.size : Int) ≤ 1000) = decide (s.size ≤ 1000) from decide_eq_decide.mpr (by omega)]
  ·exact (below_set HB.out (Nat.le_refl _)).grown (grownBy_putObj' _ D _) (by simpa using HB.out.size) (fun k e => by cases e; have := HB2.out.size; have := HE.out; omega)
 case stop =>
  rintro D c' pre W hD hpre ⟨hB, hR, hall, rfl⟩ hK
  have HB := Aside0.mk hB
  have HR := Aside0.mk hR
  have HA := Aside0.mk hall
  have HK := Aside0.mk hK
  clear hB hR hall hK
  gi_wp2
  have hne : D ≠ w.heap.size := by have := HB2.out.size; have := HE.out; omega
  refine ⟨by simp, .inl ⟨_, _, rfl, run_takeDeferred HK.out, ?_⟩⟩
  have hR3 : (W.putObj D (.deferred none)).heap[w.heap.size]? = some (.cells #[.bool false] 4 (0, 0)) := (World.putObj_heap_other hne.symm).trans HR.out
  have hcr : (W.putObj D (.deferred none)).cell? ⟨w.heap.size, 0, none⟩ = some (.bool false) := (blk_cell hR3 0).trans rfl
  refine ⟨.bool false, by simp [results, Tryz.results34, go_sem, hcr], ?_, ?_⟩
  ·have : (splitN s.size s).all identB = false := by
    obtain ⟨t, ht⟩ := hpre
    rw [← ht, List.all_append, HA.out, Bool.false_and]
   simp [fullB, this]
  ·exact HB.out.grown (grownBy_putObj' _ D _) HB.out.size (fun k e => by cases e; have := HB2.out.size; have := HE.out; omega)
end Go.Proofs.YtdkepckkihclgaaGreatDoor.PNodeChecks

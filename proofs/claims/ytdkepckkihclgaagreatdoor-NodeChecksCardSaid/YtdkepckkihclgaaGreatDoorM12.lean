import Derived.Test.YtdkepckkihclgaaGreatDoorM11
namespace Go.Proofs.YtdkepckkihclgaaGreatDoor.PNodeChecks
open Go.RowKit Go.Proofs.YtdkepckkihclgaaGreatDoorW.PrintWords Go.Proofs.YtdkepckkihclgaaGreatDoorW.PrintLast Go.Proofs.YtdkepckkihclgaaGreatDoorW.PrintMore
set_option linter.unusedVariables false
set_option linter.unusedSimpArgs false
def glossaryref07_text.f (k : Nat) (a0_0 : Int) (a0_1 : ByteArray) (a0_2 : Int) (a0_3 : Int) (a0_4 : Int) (a0_5 : Int) (a0_6 : ByteArray) (l0_7 : List (S24)) : Option Bool := refText k ⟨a0_0, a0_1, a0_2, a0_3, a0_4, a0_5, a0_6, l0_7⟩
theorem glossaryref07_text.calls (k : Nat) (a0_0 : Int) (a0_1 : ByteArray) (a0_2 : Int) (a0_3 : Int) (a0_4 : Int) (a0_5 : Int) (a0_6 : ByteArray) (A0_7 : Option Addr) (c0_7 : Nat) (l0_7 : List (S24)) (r : Bool) (w : World) (hr0_7 : Kd.C k24 w A0_7 l0_7.length l0_7) (hc0_7 : l0_7.length ≤ c0_7) (h : glossaryref07_text.f k a0_0 a0_1 a0_2 a0_3 a0_4 a0_5 a0_6 l0_7 = some r) :
  Calls Tryz.prog 27 #[.agg #[.int .i64 a0_0, .string a0_1, .int .i64 a0_2, .int .i64 a0_3, .int .i64 a0_4, .int .i64 a0_5, .string a0_6, .slice A0_7 l0_7.length c0_7]] w fun e w' => e = .returned (.bool r) ∧ Below w.heap.size w w' := refText_calls k ⟨a0_0, a0_1, a0_2, a0_3, a0_4, a0_5, a0_6, l0_7⟩ A0_7 c0_7 r w h
def rkB (k : Nat) (kd : Int) (l : List S24) : Option Bool := if kd = 1 then kaL k 1 l 0 0 else if kd = 5 then kaL k 5 l 0 0 else if kd = 6 then kaL k 6 l 0 0 else if kd = 7 then kaL k 7 l 0 0 else if kd = 8 then kaL k 8 l 0 0 else if kd = 11 then kaL k 11 l 0 0 else if kd = 12 then kaL k 12 l 0 0 else if kd = 23 then kaL k 23 l 0 0 else if kd = 16 then kaL k 16 l 0 0 else if kd = 13 then resL k l 0 else if kd = 4 then optL k l 0 else if kd = 24 then rsole l else if kd = 9 then knL k 1 l 0 (some (decide (1 ≤ l.length))) else if kd = 10 then knL k 2 l 0 (rword k l) else if kd = 17 then knL k 2 l 0 (some (decide (2 ≤ l.length))) else knL k 0 l 0 (some (decide (0 ≤ l.length)))
def glossaryref07_kids.f (k : Nat) (a0_0 : Int) (a0_1 : ByteArray) (a0_2 : Int) (a0_3 : Int) (a0_4 : Int) (a0_5 : Int) (a0_6 : ByteArray) (l0_7 : List (S24)) : Option Bool := rkB k a0_0 l0_7
theorem refKids_calls (k : Nat) (x : S24) (A : Option Addr) (c : Nat) (r : Bool) (w : World) (hC : Kd.C k24 w A x.f7.length x.f7) (hc : x.f7.length ≤ c) (h : rkB k x.f0 x.f7 = some r) :
  Calls Tryz.prog 29 #[.agg #[.int .i64 x.f0, .string x.f1, .int .i64 x.f2, .int .i64 x.f3, .int .i64 x.f4, .int .i64 x.f5, .string x.f6, .slice A x.f7.length c]] w fun e w' => e = .returned (.bool r) ∧ Below w.heap.size w w' := by
 dsimp only [rkB] at h
 by_cases h1 : x.f0 = 1
 ·rw [if_pos h1] at h
  rw [h1]
  exact rkids_1 k x A c r w hC hc h
 rw [if_neg h1] at h
 by_cases h5 : x.f0 = 5
 ·rw [if_pos h5] at h
  rw [h5]
  exact rkids_5 k x A c r w hC hc h
 rw [if_neg h5] at h
 by_cases h6 : x.f0 = 6
 ·rw [if_pos h6] at h
  rw [h6]
  exact rkids_6 k x A c r w hC hc h
 rw [if_neg h6] at h
 by_cases h7 : x.f0 = 7
 ·rw [if_pos h7] at h
  rw [h7]
  exact rkids_7 k x A c r w hC hc h
 rw [if_neg h7] at h
 by_cases h8 : x.f0 = 8
 ·rw [if_pos h8] at h
  rw [h8]
  exact rkids_8 k x A c r w hC hc h
 rw [if_neg h8] at h
 by_cases h11 : x.f0 = 11
 ·rw [if_pos h11] at h
  rw [h11]
  exact rkids_11 k x A c r w hC hc h
 rw [if_neg h11] at h
 by_cases h12 : x.f0 = 12
 ·rw [if_pos h12] at h
  rw [h12]
  exact rkids_12 k x A c r w hC hc h
 rw [if_neg h12] at h
 by_cases h23 : x.f0 = 23
 ·rw [if_pos h23] at h
  rw [h23]
  exact rkids_23 k x A c r w hC hc h
 rw [if_neg h23] at h
 by_cases h16 : x.f0 = 16
 ·rw [if_pos h16] at h
  rw [h16]
  exact rkids_16 k x A c r w hC hc h
 rw [if_neg h16] at h
 by_cases h13 : x.f0 = 13
 ·rw [if_pos h13] at h
  rw [h13]
  exact rkids_13 k x A c r w hC hc h
 rw [if_neg h13] at h
 by_cases h4 : x.f0 = 4
 ·rw [if_pos h4] at h
  rw [h4]
  exact rkids_4 k x A c r w hC hc h
 rw [if_neg h4] at h
 by_cases h24 : x.f0 = 24
 ·rw [if_pos h24] at h
  rw [h24]
  exact rkids_24 k x A c r w hC hc h
 rw [if_neg h24] at h
 by_cases h9 : x.f0 = 9
 ·rw [if_pos h9] at h
  rw [h9]
  exact rkids_9 k x A c r w hC hc h
 rw [if_neg h9] at h
 by_cases h10 : x.f0 = 10
 ·rw [if_pos h10] at h
  rw [h10]
  exact rkids_10 k x A c r w hC hc h
 rw [if_neg h10] at h
 by_cases h17 : x.f0 = 17
 ·rw [if_pos h17] at h
  rw [h17]
  exact rkids_17 k x A c r w hC hc h
 rw [if_neg h17] at h
 exact rkids_n0 x.f0 ⟨beq_eq_false_iff_ne.mpr h1, decide_eq_false h1, beq_eq_false_iff_ne.mpr h5, decide_eq_false h5, beq_eq_false_iff_ne.mpr h6, decide_eq_false h6, beq_eq_false_iff_ne.mpr h7, decide_eq_false h7, beq_eq_false_iff_ne.mpr h8, decide_eq_false h8, beq_eq_false_iff_ne.mpr h11, decide_eq_false h11, beq_eq_false_iff_ne.mpr h12, decide_eq_false h12, beq_eq_false_iff_ne.mpr h23, decide_eq_false h23, beq_eq_false_iff_ne.mpr h16, decide_eq_false h16, beq_eq_false_iff_ne.mpr h13, decide_eq_false h13, beq_eq_false_iff_ne.mpr h4, decide_eq_false h4, beq_eq_false_iff_ne.mpr h24, decide_eq_false h24, beq_eq_false_iff_ne.mpr h9, decide_eq_false h9, beq_eq_false_iff_ne.mpr h10, decide_eq_false h10, beq_eq_false_iff_ne.mpr h17, decide_eq_false h17, bne_iff_ne.mpr h10⟩ k x A c r w hC hc h
theorem glossaryref07_kids.calls (k : Nat) (a0_0 : Int) (a0_1 : ByteArray) (a0_2 : Int) (a0_3 : Int) (a0_4 : Int) (a0_5 : Int) (a0_6 : ByteArray) (A0_7 : Option Addr) (c0_7 : Nat) (l0_7 : List (S24)) (r : Bool) (w : World) (hr0_7 : Kd.C k24 w A0_7 l0_7.length l0_7) (hc0_7 : l0_7.length ≤ c0_7) (h : glossaryref07_kids.f k a0_0 a0_1 a0_2 a0_3 a0_4 a0_5 a0_6 l0_7 = some r) :
  Calls Tryz.prog 29 #[.agg #[.int .i64 a0_0, .string a0_1, .int .i64 a0_2, .int .i64 a0_3, .int .i64 a0_4, .int .i64 a0_5, .string a0_6, .slice A0_7 l0_7.length c0_7]] w fun e w' => e = .returned (.bool r) ∧ Below w.heap.size w w' := refKids_calls k ⟨a0_0, a0_1, a0_2, a0_3, a0_4, a0_5, a0_6, l0_7⟩ A0_7 c0_7 r w hr0_7 hc0_7 h
end Go.Proofs.YtdkepckkihclgaaGreatDoor.PNodeChecks

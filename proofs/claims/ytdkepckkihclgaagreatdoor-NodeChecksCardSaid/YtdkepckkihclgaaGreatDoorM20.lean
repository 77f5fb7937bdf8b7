import Derived.Test.YtdkepckkihclgaaGreatDoorM19
namespace Go.Proofs.YtdkepckkihclgaaGreatDoor.PNodeChecks
open Go.RowKit Go.Proofs.YtdkepckkihclgaaGreatDoorW.PrintWords Go.Proofs.YtdkepckkihclgaaGreatDoorW.PrintLast Go.Proofs.YtdkepckkihclgaaGreatDoorW.PrintMore
set_option linter.unusedVariables false
set_option linter.unusedSimpArgs false
def plainB (s : ByteArray) : Bool := decide (s.toList ∈ [([100, 111, 117, 98, 108, 101] : List UInt8), ([102, 108, 111, 97, 116] : List UInt8), ([105, 110, 116, 51, 50] : List UInt8), ([105, 110, 116, 54, 52] : List UInt8), ([117, 105, 110, 116, 51, 50] : List UInt8), ([117, 105, 110, 116, 54, 52] : List UInt8), ([115, 105, 110, 116, 51, 50] : List UInt8), ([115, 105, 110, 116, 54, 52] : List UInt8), ([102, 105, 120, 101, 100, 51, 50] : List UInt8), ([102, 105, 120, 101, 100, 54, 52] : List UInt8), ([115, 102, 105, 120, 101, 100, 51, 50] : List UInt8), ([115, 102, 105, 120, 101, 100, 54, 52] : List UInt8), ([98, 111, 111, 108] : List UInt8), ([115, 116, 114, 105, 110, 103] : List UInt8), ([98, 121, 116, 101, 115] : List UInt8)])
set_option maxHeartbeats 8000000 in
set_option maxRecDepth 100000 in
theorem Plain_calls (s : ByteArray) (w : World) : Calls Tryz.prog 50 #[.string s] w fun e w' => e = .returned (.bool (plainB s)) ∧ Below w.heap.size w w' := by
 by_cases h0 : s.toList = [100, 111, 117, 98, 108, 101]
 ·have g0 : (s.toList == [100, 111, 117, 98, 108, 101]) = true := beq_iff_eq.mpr h0
  have hF : Aside0 (plainB s = true) := ⟨by unfold plainB; rw [h0]; decide⟩
  clear h0
  go_enter Tryz.func50, Tryz.ntmps50
  go_wp2
  go_ret
  exact ⟨by rw [hF.out]; rfl, Below.refl _ _⟩
 ·have g0 : (s.toList == [100, 111, 117, 98, 108, 101]) = false := beq_eq_false_iff_ne.mpr h0
  by_cases h1 : s.toList = [102, 108, 111, 97, 116]
  ·have g1 : (s.toList == [102, 108, 111, 97, 116]) = true := beq_iff_eq.mpr h1
   have hF : Aside0 (plainB s = true) := ⟨by unfold plainB; rw [h1]; decide⟩
   clear h1
   go_enter Tryz.func50, Tryz.ntmps50
   go_wp2
   go_ret
   exact ⟨by rw [hF.out]; rfl, Below.refl _ _⟩
  ·have g1 : (s.toList == [102, 108, 111, 97, 116]) = false := beq_eq_false_iff_ne.mpr h1
   by_cases h2 : s.toList = [105, 110, 116, 51, 50]
   ·have g2 : (s.toList == [105, 110, 116, 51, 50]) = true := beq_iff_eq.mpr h2
    have hF : Aside0 (plainB s = true) := ⟨by unfold plainB; rw [h2]; decide⟩
    clear h2
    go_enter Tryz.func50, Tryz.ntmps50
    go_wp2
    go_ret
    exact ⟨by rw [hF.out]; rfl, Below.refl _ _⟩
   ·have g2 : (s.toList == [105, 110, 116, 51, 50]) = false := beq_eq_false_iff_ne.mpr h2
    by_cases h3 : s.toList = [105, 110, 116, 54, 52]
    ·have g3 : (s.toList == [105, 110, 116, 54, 52]) = true := beq_iff_eq.mpr h3
     have hF : Aside0 (plainB s = true) := ⟨by unfold plainB; rw [h3]; decide⟩
     clear h3
     go_enter Tryz.func50, Tryz.ntmps50
     go_wp2
     go_ret
     exact ⟨by rw [hF.out]; rfl, Below.refl _ _⟩
    ·have g3 : (s.toList == [105, 110, 116, 54, 52]) = false := beq_eq_false_iff_ne.mpr h3
     by_cases h4 : s.toList = [117, 105, 110, 116, 51, 50]
     ·have g4 : (s.toList == [117, 105, 110, 116, 51, 50]) = true := beq_iff_eq.mpr h4
      have hF : Aside0 (plainB s = true) := ⟨by unfold plainB; rw [h4]; decide⟩
      clear h4
      go_enter Tryz.func50, Tryz.ntmps50
      go_wp2
      go_ret
      exact ⟨by rw [hF.out]; rfl, Below.refl _ _⟩
     ·have g4 : (s.toList == [117, 105, 110, 116, 51, 50]) = false := beq_eq_false_iff_ne.mpr h4
      by_cases h5 : s.toList = [117, 105, 110, 116, 54, 52]
      ·have g5 : (s.toList == [117, 105, 110, 116, 54, 52]) = true := beq_iff_eq.mpr h5
       have hF : Aside0 (plainB s = true) := ⟨by unfold plainB; rw [h5]; decide⟩
       clear h5
       go_enter Tryz.func50, Tryz.ntmps50
       go_wp2
       go_ret
       exact ⟨by rw [hF.out]; rfl, Below.refl _ _⟩
      ·have g5 : (s.toList == [117, 105, 110, 116, 54, 52]) = false := beq_eq_false_iff_ne.mpr h5
       by_cases h6 : s.toList = [115, 105, 110, 116, 51, 50]
       ·have g6 : (s.toList == [115, 105, 110, 116, 51, 50]) = true := beq_iff_eq.mpr h6
        have hF : Aside0 (plainB s = true) := ⟨by unfold plainB; rw [h6]; decide⟩
        clear h6
        go_enter Tryz.func50, Tryz.ntmps50
        go_wp2
        go_ret
        exact ⟨by rw [hF.out]; rfl, Below.refl _ _⟩
       ·have g6 : (s.toList == [115, 105, 110, 116, 51, 50]) = false := beq_eq_false_iff_ne.mpr h6
        by_cases h7 : s.toList = [115, 105, 110, 116, 54, 52]
        ·have g7 : (s.toList == [115, 105, 110, 116, 54, 52]) = true := beq_iff_eq.mpr h7
         have hF : Aside0 (plainB s = true) := ⟨by unfold plainB; rw [h7]; decide⟩
         clear h7
         go_enter Tryz.func50, Tryz.ntmps50
         go_wp2
         go_ret
         exact ⟨by rw [hF.out]; rfl, Below.refl _ _⟩
        ·have g7 : (s.toList == [115, 105, 110, 116, 54, 52]) = false := beq_eq_false_iff_ne.mpr h7
         by_cases h8 : s.toList = [102, 105, 120, 101, 100, 51, 50]
         ·have g8 : (s.toList == [102, 105, 120, 101, 100, 51, 50]) = true := beq_iff_eq.mpr h8
          have hF : Aside0 (plainB s = true) := ⟨by unfold plainB; rw [h8]; decide⟩
          clear h8
          go_enter Tryz.func50, Tryz.ntmps50
          go_wp2
          go_ret
          exact ⟨by rw [hF.out]; rfl, Below.refl _ _⟩
         ·have g8 : (s.toList == [102, 105, 120, 101, 100, 51, 50]) = false := beq_eq_false_iff_ne.mpr h8
          by_cases h9 : s.toList = [102, 105, 120, 101, 100, 54, 52]
          ·have g9 : (s.toList == [102, 105, 120, 101, 100, 54, 52]) = true := beq_iff_eq.mpr h9
           have hF : Aside0 (plainB s = true) := ⟨by unfold plainB; rw [h9]; decide⟩
           clear h9
           go_enter Tryz.func50, Tryz.ntmps50
           go_wp2
           go_ret
           exact ⟨by rw [hF.out]; rfl, Below.refl _ _⟩
          ·have g9 : (s.toList == [102, 105, 120, 101, 100, 54, 52]) = false := beq_eq_false_iff_ne.mpr h9
           by_cases h10 : s.toList = [115, 102, 105, 120, 101, 100, 51, 50]
           ·have g10 : (s.toList == [115, 102, 105, 120, 101, 100, 51, 50]) = true := beq_iff_eq.mpr h10
            have hF : Aside0 (plainB s = true) := ⟨by unfold plainB; rw [h10]; decide⟩
            clear h10
            go_enter Tryz.func50, Tryz.ntmps50
            go_wp2
            go_ret
            exact ⟨by rw [hF.out]; rfl, Below.refl _ _⟩
           ·have g10 : (s.toList == [115, 102, 105, 120, 101, 100, 51, 50]) = false := beq_eq_false_iff_ne.mpr h10
            by_cases h11 : s.toList = [115, 102, 105, 120, 101, 100, 54, 52]
            ·have g11 : (s.toList == [115, 102, 105, 120, 101, 100, 54, 52]) = true := beq_iff_eq.mpr h11
             have hF : Aside0 (plainB s = true) := ⟨by unfold plainB; rw [h11]; decide⟩
             clear h11
             go_enter Tryz.func50, Tryz.ntmps50
             go_wp2
             go_ret
             exact ⟨by rw [hF.out]; rfl, Below.refl _ _⟩
            ·have g11 : (s.toList == [115, 102, 105, 120, 101, 100, 54, 52]) = false := beq_eq_false_iff_ne.mpr h11
             by_cases h12 : s.toList = [98, 111, 111, 108]
             ·have g12 : (s.toList == [98, 111, 111, 108]) = true := beq_iff_eq.mpr h12
              have hF : Aside0 (plainB s = true) := ⟨by unfold plainB; rw [h12]; decide⟩
              clear h12
              go_enter Tryz.func50, Tryz.ntmps50
              go_wp2
              go_ret
              exact ⟨by rw [hF.out]; rfl, Below.refl _ _⟩
             ·have g12 : (s.toList == [98, 111, 111, 108]) = false := beq_eq_false_iff_ne.mpr h12
              by_cases h13 : s.toList = [115, 116, 114, 105, 110, 103]
              ·have g13 : (s.toList == [115, 116, 114, 105, 110, 103]) = true := beq_iff_eq.mpr h13
               have hF : Aside0 (plainB s = true) := ⟨by unfold plainB; rw [h13]; decide⟩
               clear h13
               go_enter Tryz.func50, Tryz.ntmps50
               go_wp2
               go_ret
               exact ⟨by rw [hF.out]; rfl, Below.refl _ _⟩
              ·have g13 : (s.toList == [115, 116, 114, 105, 110, 103]) = false := beq_eq_false_iff_ne.mpr h13
               by_cases h14 : s.toList = [98, 121, 116, 101, 115]
               ·have g14 : (s.toList == [98, 121, 116, 101, 115]) = true := beq_iff_eq.mpr h14
                have hF : Aside0 (plainB s = true) := ⟨by unfold plainB; rw [h14]; decide⟩
                clear h14
                go_enter Tryz.func50, Tryz.ntmps50
                go_wp2
                go_ret
                exact ⟨by rw [hF.out]; rfl, Below.refl _ _⟩
               ·have g14 : (s.toList == [98, 121, 116, 101, 115]) = false := beq_eq_false_iff_ne.mpr h14
                have hF : Aside0 (plainB s = false) := ⟨by simp [plainB, h0, h1, h2, h3, h4, h5, h6, h7, h8, h9, h10, h11, h12, h13, h14]⟩
                clear h0 h1 h2 h3 h4 h5 h6 h7 h8 h9 h10 h11 h12 h13 h14
                go_enter Tryz.func50, Tryz.ntmps50
                go_wp2
                go_ret
                exact ⟨by rw [hF.out]; rfl, Below.refl _ _⟩
def trimB (s p : ByteArray) : ByteArray := ⟨(Lib.trimPrefix s.data.toList p.data.toList).toArray⟩
def prefB (s p : ByteArray) : Bool := Lib.hasPrefix s.data.toList p.data.toList
theorem trimB_size (s p : ByteArray) : (trimB s p).size ≤ s.size := by
 show (Lib.trimPrefix s.data.toList p.data.toList).toArray.size ≤ s.data.size
 rw [List.size_toArray, ← Array.length_toList]
 unfold Lib.trimPrefix
 split
 ·rw [List.length_drop]; omega
 ·exact Nat.le_refl _
def refB (s : ByteArray) : Bool := fullB (trimB s ⟨#[46]⟩) && !(prefB s ⟨#[46, 46]⟩)
set_option maxHeartbeats 8000000 in
set_option maxRecDepth 100000 in
theorem ref_calls (s : ByteArray) (w : World) (hs : s.size < 4611686018427387904) : Calls Tryz.prog 76 #[.string s] w fun e w' => e = .returned (.bool (refB s)) ∧ Below w.heap.size w w' := by
 obtain ⟨t, ht⟩ : ∃ t, trimB s ⟨#[46]⟩ = t := ⟨_, rfl⟩
 have HT := Aside0.mk ht
 have HS : Aside0 (t.size < 4611686018427387904) := ⟨ht ▸ Nat.lt_of_le_of_lt (trimB_size s _) hs⟩
 clear ht hs
 cases hf : fullB t
 ·have HF := Aside0.mk hf
  have hR : Aside0 (refB s = false) := ⟨by unfold refB; rw [HT.out, hf]; rfl⟩
  clear hf
  go_enter Tryz.func76, Tryz.ntmps76
  go_wp2_with (fail)
  refine (Tryz.strings_TrimPrefix s ⟨#[46]⟩ _).mono ?_
  rintro e w1 ⟨rfl, rfl⟩
  rw [show (⟨(Lib.trimPrefix s.data.toList (⟨#[46]⟩ : ByteArray).data.toList).toArray⟩ : ByteArray) = t from HT.out]
  go_wp2_with (fail)
  refine (names_Full.calls0 t _ HS.out).mono ?_
  rintro e w2 ⟨rfl, hb⟩
  rw [HF.out]
  go_wp2
  go_ret
  exact ⟨by rw [hR.out]; rfl, hb⟩
 ·have HF := Aside0.mk hf
  have hR : Aside0 (refB s = !(prefB s ⟨#[46, 46]⟩)) := ⟨by unfold refB; rw [HT.out, hf]; rfl⟩
  clear hf
  go_enter Tryz.func76, Tryz.ntmps76
  go_wp2_with (fail)
  refine (Tryz.strings_TrimPrefix s ⟨#[46]⟩ _).mono ?_
  rintro e w1 ⟨rfl, rfl⟩
  rw [show (⟨(Lib.trimPrefix s.data.toList (⟨#[46]⟩ : ByteArray).data.toList).toArray⟩ : ByteArray) = t from HT.out]
  go_wp2_with (fail)
  refine (names_Full.calls0 t _ HS.out).mono ?_
  rintro e w2 ⟨rfl, hb⟩
  rw [HF.out]
  go_wp2_with (fail)
  refine (Tryz.strings_HasPrefix s ⟨#[46, 46]⟩ _).mono ?_
  rintro e w3 ⟨rfl, rfl⟩
  go_wp2
  go_ret
  exact ⟨by rw [hR.out]; rfl, hb⟩
def kwTab : ByteArray := ⟨#[32, 109, 101, 115, 115, 97, 103, 101, 32, 101, 110, 117, 109, 32, 101, 120, 116, 101, 110, 100, 32, 101, 120, 116, 101, 110, 115, 105, 111, 110, 115, 32, 111, 112, 116, 105, 111, 110, 32, 111, 110, 101, 111, 102, 32, 109, 97, 112, 32, 114, 101, 115, 101, 114, 118, 101, 100, 32, 111, 112, 116, 105, 111, 110, 97, 108, 32, 114, 101, 113, 117, 105, 114, 101, 100, 32, 114, 101, 112, 101, 97, 116, 101, 100, 32, 114, 112, 99, 32, 115, 101, 114, 118, 105, 99, 101, 32, 105, 109, 112, 111, 114, 116, 32, 112, 97, 99, 107, 97, 103, 101, 32, 115, 121, 110, 116, 97, 120, 32, 115, 116, 114, 101, 97, 109, 32, 114, 101, 116, 117, 114, 110, 115, 32, 116, 111, 32, 109, 97, 120, 32, 112, 117, 98, 108, 105, 99, 32, 100, 111, 117, 98, 108, 101, 32, 102, 108, 111, 97, 116, 32, 105, 110, 116, 51, 50, 32, 105, 110, 116, 54, 52, 32, 117, 105, 110, 116, 51, 50, 32, 117, 105, 110, 116, 54, 52, 32, 115, 105, 110, 116, 51, 50, 32, 115, 105, 110, 116, 54, 52, 32, 102, 105, 120, 101, 100, 51, 50, 32, 102, 105, 120, 101, 100, 54, 52, 32, 115, 102, 105, 120, 101, 100, 51, 50, 32, 115, 102, 105, 120, 101, 100, 54, 52, 32, 98, 111, 111, 108, 32, 115, 116, 114, 105, 110, 103, 32, 98, 121, 116, 101, 115, 32]⟩
def keyB (s : ByteArray) : Bool := !(s.toList == ([] : List UInt8)) && (decide (Lib.indexByte s.data.toList 32 < 0) && Lib.contains kwTab.data.toList ((⟨#[32]⟩ : ByteArray) ++ s ++ ⟨#[32]⟩).data.toList)
set_option maxHeartbeats 8000000 in
set_option maxRecDepth 100000 in
theorem Keyword_calls (s : ByteArray) (w : World) (hs : s.size < 4294967281) (hm : ∃ m, w.cell? ⟨0, 0, none⟩ = some (.int .i64 m)) : Calls Tryz.prog 78 #[.string s] w fun e w' => e = .returned (.bool (keyB s)) ∧ Below w.heap.size w w' := by
 obtain ⟨m, hm⟩ := hm
 have HM := Aside0.mk hm
 have HS := Aside0.mk hs
 clear hs hm
 by_cases h0 : s.toList = []
 ·have g0 : (s.toList == ([] : List UInt8)) = true := beq_iff_eq.mpr h0
  have g1 : (s.toList != ([] : List UInt8)) = false := bne_eq_false_iff_eq.mpr h0
  have hR : Aside0 (keyB s = false) := ⟨by unfold keyB; rw [g0]; rfl⟩
  clear h0
  go_enter Tryz.func78, Tryz.ntmps78
  go_wp2
  go_ret
  exact ⟨by rw [hR.out]; rfl, Below.refl _ _⟩
 ·have g0 : (s.toList == ([] : List UInt8)) = false := beq_eq_false_iff_ne.mpr h0
  have g1 : (s.toList != ([] : List UInt8)) = true := bne_iff_ne.mpr h0
  clear h0
  obtain ⟨ix, hix⟩ : ∃ ix, Lib.indexByte s.data.toList 32 = ix := ⟨_, rfl⟩
  have HX := Aside0.mk hix
  by_cases h1 : ix < 0
  ·have d1 : decide (ix < 0) = true := decide_eq_true h1
   have hR : Aside0 (keyB s = Lib.contains kwTab.data.toList ((⟨#[32]⟩ : ByteArray) ++ s ++ ⟨#[32]⟩).data.toList) := ⟨by unfold keyB; rw [g0, hix, d1]; rfl⟩
   clear hix h1
   go_enter Tryz.func78, Tryz.ntmps78
   go_wp2_with (fail)
   refine (Tryz.strings_IndexByte s 32 _).mono ?_
   rintro e w1 ⟨rfl, rfl⟩
   rw [show Lib.indexByte s.data.toList ((32 : Int).toNat.toUInt8) = ix from HX.out]
   have hsz : s.size + 1 ≤ 9223372036854775807 := by have := HS.out; omega
   have hsz0 : 1 + s.size ≤ 9223372036854775807 := by have := HS.out; omega
   have hsz1 : ((⟨#[32]⟩ : ByteArray) ++ s).size + (⟨#[32]⟩ : ByteArray).size ≤ 9223372036854775807 := by have := HS.out; rw [ByteArray.size_append]; show (1 + s.size) + 1 ≤ _; omega
   have hsz2 : (⟨#[32]⟩ : ByteArray).size + s.size ≤ 9223372036854775807 := by have := HS.out; show 1 + s.size ≤ _; omega
   go_wp2_with (fail)
   refine (Tryz.strings_Contains kwTab _ m _ (by decide) HM.out).mono ?_
   rintro e w1 ⟨rfl, rfl⟩
   go_wp2
   go_ret
   exact ⟨by rw [hR.out]; rfl, Below.refl _ _⟩
  ·have d1 : decide (ix < 0) = false := decide_eq_false h1
   have hR : Aside0 (keyB s = false) := ⟨by unfold keyB; rw [g0, hix, d1]; rfl⟩
   clear hix h1
   go_enter Tryz.func78, Tryz.ntmps78
   go_wp2_with (fail)
   refine (Tryz.strings_IndexByte s 32 _).mono ?_
   rintro e w1 ⟨rfl, rfl⟩
   rw [show Lib.indexByte s.data.toList ((32 : Int).toNat.toUInt8) = ix from HX.out]
   go_wp2
   go_ret
   exact ⟨by rw [hR.out]; rfl, Below.refl _ _⟩
end Go.Proofs.YtdkepckkihclgaaGreatDoor.PNodeChecks
namespace Go.Proofs.YtdkepckkihclgaaGreatDoor.PNodeChecks
open Go.RowKit Go.Proofs.YtdkepckkihclgaaGreatDoorW.PrintWords Go.Proofs.YtdkepckkihclgaaGreatDoorW.PrintLast Go.Proofs.YtdkepckkihclgaaGreatDoorW.PrintMore
set_option linter.unusedVariables false
set_option linter.unusedSimpArgs false
def cutB (s : ByteArray) : ByteArray := ⟨(Lib.cut s.data.toList (⟨#[46]⟩ : ByteArray).data.toList).1.toArray⟩
theorem cutB_size (s : ByteArray) : (cutB s).size ≤ s.size := by
 show (Lib.cut s.data.toList (⟨#[46]⟩ : ByteArray).data.toList).1.toArray.size ≤ s.data.size
 rw [List.size_toArray, ← Array.length_toList]
 unfold Lib.cut
 split
 ·show (List.take _ _).length ≤ _
  rw [List.length_take]; omega
 ·exact Nat.le_refl _
def namedB (s : ByteArray) : Bool := if prefB s ⟨#[46]⟩ then refB s else fullB s && !(keyB (cutB s))
set_option maxHeartbeats 8000000 in
set_option maxRecDepth 100000 in
theorem Named_calls (s : ByteArray) (w : World) (hs : s.size < 4294967281) (hm : ∃ m, w.cell? ⟨0, 0, none⟩ = some (.int .i64 m)) : Calls Tryz.prog 44 #[.string s] w fun e w' => e = .returned (.bool (namedB s)) ∧ Below w.heap.size w w' := by
 obtain ⟨m, hm⟩ := hm
 have HM := Aside0.mk hm
 have HS := Aside0.mk hs
 clear hs hm
 cases hp : prefB s ⟨#[46]⟩
 ·have HP := Aside0.mk hp
  obtain ⟨t, ht⟩ : ∃ t, cutB s = t := ⟨_, rfl⟩
  have HT := Aside0.mk ht
  have HTS : Aside0 (t.size < 4294967281) := ⟨ht ▸ Nat.lt_of_le_of_lt (cutB_size s) HS.out⟩
  obtain ⟨t2, ht2⟩ : ∃ t2 : ByteArray, (⟨(Lib.cut s.data.toList (⟨#[46]⟩ : ByteArray).data.toList).2.1.toArray⟩ : ByteArray) = t2 := ⟨_, rfl⟩
  obtain ⟨t3, ht3⟩ : ∃ t3 : Bool, (Lib.cut s.data.toList (⟨#[46]⟩ : ByteArray).data.toList).2.2 = t3 := ⟨_, rfl⟩
  have HT2 := Aside0.mk ht2
  have HT3 := Aside0.mk ht3
  clear ht2 ht3
  cases hf : fullB s
  ·have HF := Aside0.mk hf
   have hR : Aside0 (namedB s = false) := ⟨by unfold namedB; rw [hp, hf]; rfl⟩
   clear hf ht hp
   go_enter Tryz.func44, Tryz.ntmps44
   go_wp2_with (fail)
   refine (Tryz.strings_HasPrefix s ⟨#[46]⟩ _).mono ?_
   rintro e w1 ⟨rfl, e1⟩
   replace e1 := e1.symm
   subst e1
   rw [show Lib.hasPrefix s.data.toList (⟨#[46]⟩ : ByteArray).data.toList = false from HP.out]
   go_wp2_with (fail)
   refine (Tryz.strings_Cut s ⟨#[46]⟩ m _ HS.out HM.out).mono ?_
   rintro e w1 ⟨rfl, n, rfl⟩
   rw [show (⟨(Lib.cut s.data.toList (⟨#[46]⟩ : ByteArray).data.toList).1.toArray⟩ : ByteArray) = t from HT.out, HT2.out, HT3.out]
   go_wp2_with (fail)
   refine (names_Full.calls0 s _ (by have := HS.out; omega)).mono ?_
   rintro e w2 ⟨rfl, hb⟩
   rw [HF.out]
   have HB := Aside0.mk (below_step (pw_below_drewN (Below.refl w.heap.size w) n) hb)
   clear hb
   go_wp2
   go_ret
   exact ⟨by rw [hR.out]; rfl, HB.out⟩
  ·have HF := Aside0.mk hf
   have hR : Aside0 (namedB s = !(keyB t)) := ⟨by unfold namedB; rw [hp, hf, ht]; rfl⟩
   clear hf ht hp
   go_enter Tryz.func44, Tryz.ntmps44
   go_wp2_with (fail)
   refine (Tryz.strings_HasPrefix s ⟨#[46]⟩ _).mono ?_
   rintro e w1 ⟨rfl, e1⟩
   replace e1 := e1.symm
   subst e1
   rw [show Lib.hasPrefix s.data.toList (⟨#[46]⟩ : ByteArray).data.toList = false from HP.out]
   go_wp2_with (fail)
   refine (Tryz.strings_Cut s ⟨#[46]⟩ m _ HS.out HM.out).mono ?_
   rintro e w1 ⟨rfl, n, rfl⟩
   rw [show (⟨(Lib.cut s.data.toList (⟨#[46]⟩ : ByteArray).data.toList).1.toArray⟩ : ByteArray) = t from HT.out, HT2.out, HT3.out]
   go_wp2_with (fail)
   refine (names_Full.calls0 s _ (by have := HS.out; omega)).mono ?_
   rintro e w2 ⟨rfl, hb⟩
   rw [HF.out]
   have HB := Aside0.mk (below_step (pw_below_drewN (Below.refl w.heap.size w) n) hb)
   clear hb
   go_wp2_with (fail)
   refine (Keyword_calls t _ HTS.out ⟨m, (HB.out.cell (World.block_lt_of_cell? w _ HM.out)).trans HM.out⟩).mono ?_
   rintro e w3 ⟨rfl, hb⟩
   have HB3 := Aside0.mk (below_step HB.out hb)
   clear hb
   go_wp2
   go_ret
   exact ⟨by rw [hR.out]; rfl, HB3.out⟩
 ·have HP := Aside0.mk hp
  have hR : Aside0 (namedB s = refB s) := ⟨by unfold namedB; rw [hp]; rfl⟩
  clear hp
  go_enter Tryz.func44, Tryz.ntmps44
  go_wp2_with (fail)
  refine (Tryz.strings_HasPrefix s ⟨#[46]⟩ _).mono ?_
  rintro e w1 ⟨rfl, e1⟩
  replace e1 := e1.symm
  subst e1
  rw [show Lib.hasPrefix s.data.toList (⟨#[46]⟩ : ByteArray).data.toList = true from HP.out]
  go_wp2_with (fail)
  refine (ref_calls s _ (by have := HS.out; omega)).mono ?_
  rintro e w2 ⟨rfl, hb⟩
  go_wp2
  go_ret
  exact ⟨by rw [hR.out]; rfl, hb⟩
set_option maxHeartbeats 8000000 in
set_option maxRecDepth 100000 in
theorem atMost1_calls (x : S24) (A : Option Addr) (c : Nat) (w : World) (hs : x.f1.size < 4294967281) :
  Calls Tryz.prog 30 #[.agg #[.int .i64 x.f0, .string x.f1, .int .i64 x.f2, .int .i64 x.f3, .int .i64 x.f4, .int .i64 x.f5, .string x.f6, .slice A x.f7.length c]] w fun e w' => e = .returned (.bool (decide (x.f1.size ≤ 1000))) ∧ Below w.heap.size w w' := by
 clear hs
 go_enter Tryz.func30, Tryz.ntmps30
 go_wp2_with (first | ((with_reducible refine gate_dst (N := 1) rfl ?_); refine box_event ?hg (N := 1) ?hd (cs := #[.int .i64 x.f0, .string x.f1, .int .i64 x.f2, .int .i64 x.f3, .int .i64 x.f4, .int .i64 x.f5, .string x.f6, .slice A x.f7.length c]) (t := 24) ?hr ?_; (case hd => rfl); (case hg => rfl); (case hr => first | (go_simp; done) | (go_simp; rfl)); intro gx hg w1 hbox hb; have HB := Aside0.mk hb; have hq0 : w1.cell? ⟨gx, 0, none⟩ = some (.int .i64 x.f0) := (blk_cell hbox 0).trans rfl; have hq1 : w1.cell? ⟨gx, 1, none⟩ = some (.string x.f1) := (blk_cell hbox 1).trans rfl; have hq2 : w1.cell? ⟨gx, 2, none⟩ = some (.int .i64 x.f2) := (blk_cell hbox 2).trans rfl; have hq3 : w1.cell? ⟨gx, 3, none⟩ = some (.int .i64 x.f3) := (blk_cell hbox 3).trans rfl; have hq4 : w1.cell? ⟨gx, 4, none⟩ = some (.int .i64 x.f4) := (blk_cell hbox 4).trans rfl; have hq5 : w1.cell? ⟨gx, 5, none⟩ = some (.int .i64 x.f5) := (blk_cell hbox 5).trans rfl; have hq6 : w1.cell? ⟨gx, 6, none⟩ = some (.string x.f6) := (blk_cell hbox 6).trans rfl; have hq7 : w1.cell? ⟨gx, 7, none⟩ = some (.slice A x.f7.length c) := (blk_cell hbox 7).trans rfl; clear hg hb hbox))
 go_ret
 exact ⟨by (have : decide ((x.f1.size : Int) ≤ 1000) = decide (x.f1.size ≤ 1000) := by (rw [Bool.eq_iff_iff, decide_eq_true_eq, decide_eq_true_eq]; omega)); rw [this]; rfl, HB.out⟩
set_option maxHeartbeats 8000000 in
set_option maxRecDepth 100000 in
theorem atMost2_calls (x : S24) (A : Option Addr) (c : Nat) (w : World) (hs : x.f1.size < 4294967281) :
  Calls Tryz.prog 58 #[.agg #[.int .i64 x.f0, .string x.f1, .int .i64 x.f2, .int .i64 x.f3, .int .i64 x.f4, .int .i64 x.f5, .string x.f6, .slice A x.f7.length c]] w fun e w' => e = .returned (.bool (decide (x.f1.size ≤ 10000))) ∧ Below w.heap.size w w' := by
 clear hs
 go_enter Tryz.func58, Tryz.ntmps58
 go_wp2_with (first | ((with_reducible refine gate_dst (N := 1) rfl ?_); refine box_event ?hg (N := 1) ?hd (cs := #[.int .i64 x.f0, .string x.f1, .int .i64 x.f2, .int .i64 x.f3, .int .i64 x.f4, .int .i64 x.f5, .string x.f6, .slice A x.f7.length c]) (t := 24) ?hr ?_; (case hd => rfl); (case hg => rfl); (case hr => first | (go_simp; done) | (go_simp; rfl)); intro gx hg w1 hbox hb; have HB := Aside0.mk hb; have hq0 : w1.cell? ⟨gx, 0, none⟩ = some (.int .i64 x.f0) := (blk_cell hbox 0).trans rfl; have hq1 : w1.cell? ⟨gx, 1, none⟩ = some (.string x.f1) := (blk_cell hbox 1).trans rfl; have hq2 : w1.cell? ⟨gx, 2, none⟩ = some (.int .i64 x.f2) := (blk_cell hbox 2).trans rfl; have hq3 : w1.cell? ⟨gx, 3, none⟩ = some (.int .i64 x.f3) := (blk_cell hbox 3).trans rfl; have hq4 : w1.cell? ⟨gx, 4, none⟩ = some (.int .i64 x.f4) := (blk_cell hbox 4).trans rfl; have hq5 : w1.cell? ⟨gx, 5, none⟩ = some (.int .i64 x.f5) := (blk_cell hbox 5).trans rfl; have hq6 : w1.cell? ⟨gx, 6, none⟩ = some (.string x.f6) := (blk_cell hbox 6).trans rfl; have hq7 : w1.cell? ⟨gx, 7, none⟩ = some (.slice A x.f7.length c) := (blk_cell hbox 7).trans rfl; clear hg hb hbox))
 go_ret
 exact ⟨by (have : decide ((x.f1.size : Int) ≤ 10000) = decide (x.f1.size ≤ 10000) := by (rw [Bool.eq_iff_iff, decide_eq_true_eq, decide_eq_true_eq]; omega)); rw [this]; rfl, HB.out⟩
set_option maxHeartbeats 8000000 in
set_option maxRecDepth 100000 in
theorem numberless_calls (x : S24) (A : Option Addr) (c : Nat) (w : World) :
  Calls Tryz.prog 31 #[.agg #[.int .i64 x.f0, .string x.f1, .int .i64 x.f2, .int .i64 x.f3, .int .i64 x.f4, .int .i64 x.f5, .string x.f6, .slice A x.f7.length c]] w fun e w' => e = .returned (.bool (true)) ∧ Below w.heap.size w w' := by
 go_enter Tryz.func31, Tryz.ntmps31
 go_wp2_with (first | ((with_reducible refine gate_dst (N := 1) rfl ?_); refine box_event ?hg (N := 1) ?hd (cs := #[.int .i64 x.f0, .string x.f1, .int .i64 x.f2, .int .i64 x.f3, .int .i64 x.f4, .int .i64 x.f5, .string x.f6, .slice A x.f7.length c]) (t := 24) ?hr ?_; (case hd => rfl); (case hg => rfl); (case hr => first | (go_simp; done) | (go_simp; rfl)); intro gx hg w1 hbox hb; have HB := Aside0.mk hb; have hq0 : w1.cell? ⟨gx, 0, none⟩ = some (.int .i64 x.f0) := (blk_cell hbox 0).trans rfl; have hq1 : w1.cell? ⟨gx, 1, none⟩ = some (.string x.f1) := (blk_cell hbox 1).trans rfl; have hq2 : w1.cell? ⟨gx, 2, none⟩ = some (.int .i64 x.f2) := (blk_cell hbox 2).trans rfl; have hq3 : w1.cell? ⟨gx, 3, none⟩ = some (.int .i64 x.f3) := (blk_cell hbox 3).trans rfl; have hq4 : w1.cell? ⟨gx, 4, none⟩ = some (.int .i64 x.f4) := (blk_cell hbox 4).trans rfl; have hq5 : w1.cell? ⟨gx, 5, none⟩ = some (.int .i64 x.f5) := (blk_cell hbox 5).trans rfl; have hq6 : w1.cell? ⟨gx, 6, none⟩ = some (.string x.f6) := (blk_cell hbox 6).trans rfl; have hq7 : w1.cell? ⟨gx, 7, none⟩ = some (.slice A x.f7.length c) := (blk_cell hbox 7).trans rfl; clear hg hb hbox))
 go_ret
 exact ⟨by rfl, HB.out⟩
set_option maxHeartbeats 8000000 in
set_option maxRecDepth 100000 in
theorem nothing_calls (x : S24) (A : Option Addr) (c : Nat) (w : World) :
  Calls Tryz.prog 35 #[.agg #[.int .i64 x.f0, .string x.f1, .int .i64 x.f2, .int .i64 x.f3, .int .i64 x.f4, .int .i64 x.f5, .string x.f6, .slice A x.f7.length c]] w fun e w' => e = .returned (.bool (x.f1.toList == ([] : List UInt8))) ∧ Below w.heap.size w w' := by
 go_enter Tryz.func35, Tryz.ntmps35
 go_wp2_with (first | ((with_reducible refine gate_dst (N := 1) rfl ?_); refine box_event ?hg (N := 1) ?hd (cs := #[.int .i64 x.f0, .string x.f1, .int .i64 x.f2, .int .i64 x.f3, .int .i64 x.f4, .int .i64 x.f5, .string x.f6, .slice A x.f7.length c]) (t := 24) ?hr ?_; (case hd => rfl); (case hg => rfl); (case hr => first | (go_simp; done) | (go_simp; rfl)); intro gx hg w1 hbox hb; have HB := Aside0.mk hb; have hq0 : w1.cell? ⟨gx, 0, none⟩ = some (.int .i64 x.f0) := (blk_cell hbox 0).trans rfl; have hq1 : w1.cell? ⟨gx, 1, none⟩ = some (.string x.f1) := (blk_cell hbox 1).trans rfl; have hq2 : w1.cell? ⟨gx, 2, none⟩ = some (.int .i64 x.f2) := (blk_cell hbox 2).trans rfl; have hq3 : w1.cell? ⟨gx, 3, none⟩ = some (.int .i64 x.f3) := (blk_cell hbox 3).trans rfl; have hq4 : w1.cell? ⟨gx, 4, none⟩ = some (.int .i64 x.f4) := (blk_cell hbox 4).trans rfl; have hq5 : w1.cell? ⟨gx, 5, none⟩ = some (.int .i64 x.f5) := (blk_cell hbox 5).trans rfl; have hq6 : w1.cell? ⟨gx, 6, none⟩ = some (.string x.f6) := (blk_cell hbox 6).trans rfl; have hq7 : w1.cell? ⟨gx, 7, none⟩ = some (.slice A x.f7.length c) := (blk_cell hbox 7).trans rfl; clear hg hb hbox))
 go_ret
 exact ⟨by (rw [show (x.f1.toList == ([] : List UInt8)) = x.f1.toList.isEmpty by cases x.f1.toList <;> rfl]; rfl), HB.out⟩
set_option maxHeartbeats 8000000 in
set_option maxRecDepth 100000 in
theorem isFull_calls (x : S24) (A : Option Addr) (c : Nat) (w : World) (hs : x.f1.size < 4294967281) :
  Calls Tryz.prog 33 #[.agg #[.int .i64 x.f0, .string x.f1, .int .i64 x.f2, .int .i64 x.f3, .int .i64 x.f4, .int .i64 x.f5, .string x.f6, .slice A x.f7.length c]] w fun e w' => e = .returned (.bool (fullB x.f1)) ∧ Below w.heap.size w w' := by
 have HS := Aside0.mk hs
 clear hs
 go_enter Tryz.func33, Tryz.ntmps33
 go_wp2_with (first | ((with_reducible refine gate_dst (N := 1) rfl ?_); refine box_event ?hg (N := 1) ?hd (cs := #[.int .i64 x.f0, .string x.f1, .int .i64 x.f2, .int .i64 x.f3, .int .i64 x.f4, .int .i64 x.f5, .string x.f6, .slice A x.f7.length c]) (t := 24) ?hr ?_; (case hd => rfl); (case hg => rfl); (case hr => first | (go_simp; done) | (go_simp; rfl)); intro gx hg w1 hbox hb; have HB := Aside0.mk hb; have hq0 : w1.cell? ⟨gx, 0, none⟩ = some (.int .i64 x.f0) := (blk_cell hbox 0).trans rfl; have hq1 : w1.cell? ⟨gx, 1, none⟩ = some (.string x.f1) := (blk_cell hbox 1).trans rfl; have hq2 : w1.cell? ⟨gx, 2, none⟩ = some (.int .i64 x.f2) := (blk_cell hbox 2).trans rfl; have hq3 : w1.cell? ⟨gx, 3, none⟩ = some (.int .i64 x.f3) := (blk_cell hbox 3).trans rfl; have hq4 : w1.cell? ⟨gx, 4, none⟩ = some (.int .i64 x.f4) := (blk_cell hbox 4).trans rfl; have hq5 : w1.cell? ⟨gx, 5, none⟩ = some (.int .i64 x.f5) := (blk_cell hbox 5).trans rfl; have hq6 : w1.cell? ⟨gx, 6, none⟩ = some (.string x.f6) := (blk_cell hbox 6).trans rfl; have hq7 : w1.cell? ⟨gx, 7, none⟩ = some (.slice A x.f7.length c) := (blk_cell hbox 7).trans rfl; clear hg hb hbox))
 refine (names_Full.calls0 x.f1 _ (by have := HS.out; omega)).mono ?_
 rintro e w2 ⟨rfl, hb⟩
 have HB2 := Aside0.mk (below_step HB.out hb)
 clear hb
 go_wp2
 go_ret
 exact ⟨by rfl, HB2.out⟩
set_option maxHeartbeats 8000000 in
set_option maxRecDepth 100000 in
theorem isIdent_calls (x : S24) (A : Option Addr) (c : Nat) (w : World) (hs : x.f1.size < 4294967281) :
  Calls Tryz.prog 42 #[.agg #[.int .i64 x.f0, .string x.f1, .int .i64 x.f2, .int .i64 x.f3, .int .i64 x.f4, .int .i64 x.f5, .string x.f6, .slice A x.f7.length c]] w fun e w' => e = .returned (.bool (identB x.f1)) ∧ Below w.heap.size w w' := by
 have HS := Aside0.mk hs
 clear hs
 go_enter Tryz.func42, Tryz.ntmps42
 go_wp2_with (first | ((with_reducible refine gate_dst (N := 1) rfl ?_); refine box_event ?hg (N := 1) ?hd (cs := #[.int .i64 x.f0, .string x.f1, .int .i64 x.f2, .int .i64 x.f3, .int .i64 x.f4, .int .i64 x.f5, .string x.f6, .slice A x.f7.length c]) (t := 24) ?hr ?_; (case hd => rfl); (case hg => rfl); (case hr => first | (go_simp; done) | (go_simp; rfl)); intro gx hg w1 hbox hb; have HB := Aside0.mk hb; have hq0 : w1.cell? ⟨gx, 0, none⟩ = some (.int .i64 x.f0) := (blk_cell hbox 0).trans rfl; have hq1 : w1.cell? ⟨gx, 1, none⟩ = some (.string x.f1) := (blk_cell hbox 1).trans rfl; have hq2 : w1.cell? ⟨gx, 2, none⟩ = some (.int .i64 x.f2) := (blk_cell hbox 2).trans rfl; have hq3 : w1.cell? ⟨gx, 3, none⟩ = some (.int .i64 x.f3) := (blk_cell hbox 3).trans rfl; have hq4 : w1.cell? ⟨gx, 4, none⟩ = some (.int .i64 x.f4) := (blk_cell hbox 4).trans rfl; have hq5 : w1.cell? ⟨gx, 5, none⟩ = some (.int .i64 x.f5) := (blk_cell hbox 5).trans rfl; have hq6 : w1.cell? ⟨gx, 6, none⟩ = some (.string x.f6) := (blk_cell hbox 6).trans rfl; have hq7 : w1.cell? ⟨gx, 7, none⟩ = some (.slice A x.f7.length c) := (blk_cell hbox 7).trans rfl; clear hg hb hbox))
 refine (names_Ident.calls0 x.f1 _ (by have := HS.out; omega)).mono ?_
 rintro e w2 ⟨rfl, hb⟩
 have HB2 := Aside0.mk (below_step HB.out hb)
 clear hb
 go_wp2
 go_ret
 exact ⟨by rfl, HB2.out⟩
set_option maxHeartbeats 8000000 in
set_option maxRecDepth 100000 in
theorem isNamed_calls (x : S24) (A : Option Addr) (c : Nat) (w : World) (hs : x.f1.size < 4294967281) (hm : ∃ m, w.cell? ⟨0, 0, none⟩ = some (.int .i64 m)) :
  Calls Tryz.prog 43 #[.agg #[.int .i64 x.f0, .string x.f1, .int .i64 x.f2, .int .i64 x.f3, .int .i64 x.f4, .int .i64 x.f5, .string x.f6, .slice A x.f7.length c]] w fun e w' => e = .returned (.bool (namedB x.f1)) ∧ Below w.heap.size w w' := by
 have HS := Aside0.mk hs
 have HM := Aside0.mk hm
 clear hs hm
 go_enter Tryz.func43, Tryz.ntmps43
 go_wp2_with (first | ((with_reducible refine gate_dst (N := 1) rfl ?_); refine box_event ?hg (N := 1) ?hd (cs := #[.int .i64 x.f0, .string x.f1, .int .i64 x.f2, .int .i64 x.f3, .int .i64 x.f4, .int .i64 x.f5, .string x.f6, .slice A x.f7.length c]) (t := 24) ?hr ?_; (case hd => rfl); (case hg => rfl); (case hr => first | (go_simp; done) | (go_simp; rfl)); intro gx hg w1 hbox hb; have HB := Aside0.mk hb; have hq0 : w1.cell? ⟨gx, 0, none⟩ = some (.int .i64 x.f0) := (blk_cell hbox 0).trans rfl; have hq1 : w1.cell? ⟨gx, 1, none⟩ = some (.string x.f1) := (blk_cell hbox 1).trans rfl; have hq2 : w1.cell? ⟨gx, 2, none⟩ = some (.int .i64 x.f2) := (blk_cell hbox 2).trans rfl; have hq3 : w1.cell? ⟨gx, 3, none⟩ = some (.int .i64 x.f3) := (blk_cell hbox 3).trans rfl; have hq4 : w1.cell? ⟨gx, 4, none⟩ = some (.int .i64 x.f4) := (blk_cell hbox 4).trans rfl; have hq5 : w1.cell? ⟨gx, 5, none⟩ = some (.int .i64 x.f5) := (blk_cell hbox 5).trans rfl; have hq6 : w1.cell? ⟨gx, 6, none⟩ = some (.string x.f6) := (blk_cell hbox 6).trans rfl; have hq7 : w1.cell? ⟨gx, 7, none⟩ = some (.slice A x.f7.length c) := (blk_cell hbox 7).trans rfl; clear hg hb hbox))
 refine (Named_calls x.f1 _ HS.out (by obtain ⟨m, hm⟩ := HM.out; exact ⟨m, (HB.out.cell (World.block_lt_of_cell? w _ hm)).trans hm⟩)).mono ?_
 rintro e w2 ⟨rfl, hb⟩
 have HB2 := Aside0.mk (below_step HB.out hb)
 clear hb
 go_wp2
 go_ret
 exact ⟨by rfl, HB2.out⟩
set_option maxHeartbeats 8000000 in
set_option maxRecDepth 100000 in
theorem isSyntax_calls (x : S24) (A : Option Addr) (c : Nat) (w : World) :
  Calls Tryz.prog 39 #[.agg #[.int .i64 x.f0, .string x.f1, .int .i64 x.f2, .int .i64 x.f3, .int .i64 x.f4, .int .i64 x.f5, .string x.f6, .slice A x.f7.length c]] w fun e w' => e = .returned (.bool ((x.f1.toList == ([] : List UInt8)) || ((x.f1.toList == ([112, 114, 111, 116, 111, 50] : List UInt8)) || (x.f1.toList == ([112, 114, 111, 116, 111, 51] : List UInt8))))) ∧ Below w.heap.size w w' := by
 cases h0 : (x.f1.toList == ([] : List UInt8))
 ·cases h1 : (x.f1.toList == ([112, 114, 111, 116, 111, 50] : List UInt8))
  ·go_enter Tryz.func39, Tryz.ntmps39
   go_wp2_with (first | ((with_reducible refine gate_dst (N := 1) rfl ?_); refine box_event ?hg (N := 1) ?hd (cs := #[.int .i64 x.f0, .string x.f1, .int .i64 x.f2, .int .i64 x.f3, .int .i64 x.f4, .int .i64 x.f5, .string x.f6, .slice A x.f7.length c]) (t := 24) ?hr ?_; (case hd => rfl); (case hg => rfl); (case hr => first | (go_simp; done) | (go_simp; rfl)); intro gx hg w1 hbox hb; have HB := Aside0.mk hb; have hq0 : w1.cell? ⟨gx, 0, none⟩ = some (.int .i64 x.f0) := (blk_cell hbox 0).trans rfl; have hq1 : w1.cell? ⟨gx, 1, none⟩ = some (.string x.f1) := (blk_cell hbox 1).trans rfl; have hq2 : w1.cell? ⟨gx, 2, none⟩ = some (.int .i64 x.f2) := (blk_cell hbox 2).trans rfl; have hq3 : w1.cell? ⟨gx, 3, none⟩ = some (.int .i64 x.f3) := (blk_cell hbox 3).trans rfl; have hq4 : w1.cell? ⟨gx, 4, none⟩ = some (.int .i64 x.f4) := (blk_cell hbox 4).trans rfl; have hq5 : w1.cell? ⟨gx, 5, none⟩ = some (.int .i64 x.f5) := (blk_cell hbox 5).trans rfl; have hq6 : w1.cell? ⟨gx, 6, none⟩ = some (.string x.f6) := (blk_cell hbox 6).trans rfl; have hq7 : w1.cell? ⟨gx, 7, none⟩ = some (.slice A x.f7.length c) := (blk_cell hbox 7).trans rfl; clear hg hb hbox))
   go_ret
   exact ⟨by simp, HB.out⟩
  ·go_enter Tryz.func39, Tryz.ntmps39
   go_wp2_with (first | ((with_reducible refine gate_dst (N := 1) rfl ?_); refine box_event ?hg (N := 1) ?hd (cs := #[.int .i64 x.f0, .string x.f1, .int .i64 x.f2, .int .i64 x.f3, .int .i64 x.f4, .int .i64 x.f5, .string x.f6, .slice A x.f7.length c]) (t := 24) ?hr ?_; (case hd => rfl); (case hg => rfl); (case hr => first | (go_simp; done) | (go_simp; rfl)); intro gx hg w1 hbox hb; have HB := Aside0.mk hb; have hq0 : w1.cell? ⟨gx, 0, none⟩ = some (.int .i64 x.f0) := (blk_cell hbox 0).trans rfl; have hq1 : w1.cell? ⟨gx, 1, none⟩ = some (.string x.f1) := (blk_cell hbox 1).trans rfl; have hq2 : w1.cell? ⟨gx, 2, none⟩ = some (.int .i64 x.f2) := (blk_cell hbox 2).trans rfl; have hq3 : w1.cell? ⟨gx, 3, none⟩ = some (.int .i64 x.f3) := (blk_cell hbox 3).trans rfl; have hq4 : w1.cell? ⟨gx, 4, none⟩ = some (.int .i64 x.f4) := (blk_cell hbox 4).trans rfl; have hq5 : w1.cell? ⟨gx, 5, none⟩ = some (.int .i64 x.f5) := (blk_cell hbox 5).trans rfl; have hq6 : w1.cell? ⟨gx, 6, none⟩ = some (.string x.f6) := (blk_cell hbox 6).trans rfl; have hq7 : w1.cell? ⟨gx, 7, none⟩ = some (.slice A x.f7.length c) := (blk_cell hbox 7).trans rfl; clear hg hb hbox))
   go_ret
   exact ⟨by simp, HB.out⟩
 ·go_enter Tryz.func39, Tryz.ntmps39
  go_wp2_with (first | ((with_reducible refine gate_dst (N := 1) rfl ?_); refine box_event ?hg (N := 1) ?hd (cs := #[.int .i64 x.f0, .string x.f1, .int .i64 x.f2, .int .i64 x.f3, .int .i64 x.f4, .int .i64 x.f5, .string x.f6, .slice A x.f7.length c]) (t := 24) ?hr ?_; (case hd => rfl); (case hg => rfl); (case hr => first | (go_simp; done) | (go_simp; rfl)); intro gx hg w1 hbox hb; have HB := Aside0.mk hb; have hq0 : w1.cell? ⟨gx, 0, none⟩ = some (.int .i64 x.f0) := (blk_cell hbox 0).trans rfl; have hq1 : w1.cell? ⟨gx, 1, none⟩ = some (.string x.f1) := (blk_cell hbox 1).trans rfl; have hq2 : w1.cell? ⟨gx, 2, none⟩ = some (.int .i64 x.f2) := (blk_cell hbox 2).trans rfl; have hq3 : w1.cell? ⟨gx, 3, none⟩ = some (.int .i64 x.f3) := (blk_cell hbox 3).trans rfl; have hq4 : w1.cell? ⟨gx, 4, none⟩ = some (.int .i64 x.f4) := (blk_cell hbox 4).trans rfl; have hq5 : w1.cell? ⟨gx, 5, none⟩ = some (.int .i64 x.f5) := (blk_cell hbox 5).trans rfl; have hq6 : w1.cell? ⟨gx, 6, none⟩ = some (.string x.f6) := (blk_cell hbox 6).trans rfl; have hq7 : w1.cell? ⟨gx, 7, none⟩ = some (.slice A x.f7.length c) := (blk_cell hbox 7).trans rfl; clear hg hb hbox))
  go_ret
  exact ⟨by simp, HB.out⟩
end Go.Proofs.YtdkepckkihclgaaGreatDoor.PNodeChecks

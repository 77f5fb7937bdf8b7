import Derived.Test.YtdkepckkihclgaaGreatDoorM4
namespace Go.Proofs.YtdkepckkihclgaaGreatDoor.PNodeChecks
open Go.RowKit Go.Proofs.YtdkepckkihclgaaGreatDoorW.PrintWords Go.Proofs.YtdkepckkihclgaaGreatDoorW.PrintLast Go.Proofs.YtdkepckkihclgaaGreatDoorW.PrintMore
set_option linter.unusedVariables false
set_option linter.unusedSimpArgs false
theorem drawn_below {w w' : World} (h : Drawn0 w w') : Below w.heap.size w w' := by
 obtain ⟨n, rfl⟩ := h
 exact pw_below_drewN (Below.refl _ _) n
theorem minus_nil {s : ByteArray} (h : s.toList = []) : minusB s = false ∧ dOf s = s := by
 have e : s.data.toList = [] := by rw [ByteArray.toList_eq] at h; exact h
 constructor
 ·unfold minusB; rw [e]; rfl
 ·apply ByteArray.ext
  show (Lib.trimPrefix s.data.toList [45]).toArray = s.data
  rw [e]
  apply Array.toList_inj.mp
  rw [e]; rfl
theorem minus_at {s : ByteArray} (h : 0 < s.size) : minusB s = (bt s 0 == 45) := by
 have hl : 0 < s.data.toList.length := by rw [Array.length_toList]; exact h
 unfold minusB
 cases e : s.data.toList with
 | nil => rw [e] at hl; exact absurd hl (by decide)
 | cons a l =>
  have hb : bt s 0 = (a.toNat : Int) := by
   have h2 := bt_at s 0 (by simpa using h)
   rw [← h2]
   have : s[(0 : Int).toNat]'(by simpa using h) = a := by
    show s.data[0] = a
    rw [← Array.getElem_toList]
    simp [e]
   rw [this]
  rw [hb]
  simp only [Lib.hasPrefix]
  rw [Bool.eq_iff_iff]
  simp
  constructor
  ·intro e2; rw [← e2]; rfl
  ·intro e2
   apply Eq.symm
   apply UInt8.toNat_inj.mp
   have : (a.toNat : Int) = 45 := e2
   show a.toNat = 45
   omega
theorem dOf_minus {s : ByteArray} (h : minusB s = true) : s.extract 1 s.size = dOf s := by
 apply ByteArray.ext
 rw [ByteArray.data_extract]
 have h2 : Lib.hasPrefix s.data.toList [45] = true := h
 show _ = (Lib.trimPrefix s.data.toList [45]).toArray
 unfold Lib.trimPrefix
 rw [if_pos h2]
 apply Array.toList_inj.mp
 have hz : s.size = s.data.size := rfl
 rw [hz]
 simp
 exact List.take_of_length_le (by rw [List.length_tail, Array.length_toList]; exact Nat.le_refl _)
theorem dOf_plain {s : ByteArray} (h : minusB s = false) : dOf s = s := by
 apply ByteArray.ext
 show (Lib.trimPrefix s.data.toList [45]).toArray = s.data
 unfold Lib.trimPrefix
 rw [if_neg (by show ¬ (minusB s = true); rw [h]; decide)]
def refInt.f (k : Nat) (s : ByteArray) : Option (Int × Bool × Bool) :=
 (glossaryref01_Number.f k (dOf s)).bind fun t => if 0 ≤ t.1 ∧ t.1 < 18446744073709551616 then (if t.2 = true then (if digs t.1 = dOf s then (if minusB s = true then (if t.1 = 0 then some (0, false, false) else if t.1 > 9223372036854775808 then some (0, false, false) else some (t.1, true, true)) else some (t.1, false, true)) else some (0, false, false)) else some (0, false, false)) else none
set_option maxHeartbeats 8000000 in
set_option maxRecDepth 100000 in
theorem refInt.calls (k : Nat) (s : ByteArray) (r1 : Int) (r2 r3 : Bool) (w : World) (h : refInt.f k s = some (r1, r2, r3)) :
  Calls Tryz.prog 60 #[.string s] w fun e w' => e = .returned (.tuple #[.int .u64 r1, .bool r2, .bool r3]) ∧ Below w.heap.size w w' := by
 obtain ⟨⟨n, is⟩, hq, h⟩ := Option.bind_eq_some_iff.mp h
 dsimp only at h
 split at h
 ·rename_i hN
  have HQ0 := Aside0.mk hq
  have HN := Aside0.mk hN
  have H0 := Aside0.mk h
  have hN0 := HN.out.1
  clear hq hN h
  go_enter Tryz.func60, Tryz.ntmps60
  go_upto_region 2 with (fail)
  go_cut [16] (fun v16 wc => v16 = .bool (minusB s) ∧ Aside0 (wc = w))
  case first =>
   by_cases d0 : s.toList = ([] : List UInt8)
   ·have e0 : (s.toList == ([] : List UInt8)) = true := beq_iff_eq.mpr d0
    have e1 : (s.toList != ([] : List UInt8)) = false := bne_eq_false_iff_eq.mpr d0
    have HF := Aside0.mk (minus_nil d0).1
    clear d0
    go_wp2
    go_meet
    case rel => exact ⟨by rw [HF.out], ⟨rfl⟩⟩
   ·have e0 : (s.toList == ([] : List UInt8)) = false := beq_eq_false_iff_ne.mpr d0
    have e1 : (s.toList != ([] : List UInt8)) = true := bne_iff_ne.mpr d0
    have hpos : 0 < s.size := by
     rcases Nat.eq_zero_or_pos s.size with hz | hz
     ·exact absurd (List.eq_nil_of_length_eq_zero (by rw [ByteArray.toList_eq, Array.length_toList]; exact hz)) d0
     ·exact hz
    have HF := Aside0.mk (minus_at hpos)
    have hx5 : ∀ h : 0 < s.size, ((s[0]'h).toNat : Int) = bt s 0 := bt_at s 0
    have qi5 : (0 < (s.size : Int)) = True := eq_true (by omega)
    have q5 := eq_true hpos
    clear d0 hpos
    go_wp2
    go_meet
    case rel => exact ⟨by rw [HF.out], ⟨rfl⟩⟩
  case rest =>
   obtain ⟨rfl, HW⟩ := hcut
   rw [HW.out]
   clear HW
   cases hm : minusB s with
   | false =>
    have hd := dOf_plain hm
    have HQ := Aside0.mk (show glossaryref01_Number.f k s = some (n, is) by rw [← hd]; exact HQ0.out)
    have H1 := H0.out
    rw [hd, hm] at H1
    have H := Aside0.mk H1
    clear H1 hd hm HQ0 H0
    obtain ⟨d, hd⟩ : ∃ d, s = d := ⟨_, rfl⟩
    subst hd
    go_wp2_with (fail)
    refine (glossaryref01_Number.calls k s n is _ HQ.out).mono ?_
    rintro e w1 ⟨rfl, hb⟩
    have HB1 := Aside0.mk (drawn_below hb)
    clear hb
    cases is with
    | false =>
     obtain ⟨rfl, rfl, rfl⟩ : (0 : Int) = r1 ∧ false = r2 ∧ false = r3 := by simpa using H.out
     go_wp2
     go_ret3
     exact ⟨rfl, HB1.out⟩
    | true =>
     have H1 := H.out
     rw [if_pos rfl] at H1
     go_wp2_with (fail)
     refine (glossaryref01_Digits.calls n (digs n) _ (by unfold glossaryref01_Digits.f; rw [if_pos HN.out])).mono ?_
     rintro e w2 ⟨rfl, hb⟩
     have HB2 := Aside0.mk (below_step HB1.out hb)
     clear hb
     by_cases he : digs n = s
     ·have hee : ((digs n).toList == s.toList) = true := by rw [he]; simp
      have hen : ((digs n).toList != s.toList) = false := by rw [he]; simp
      rw [if_pos he] at H1
      have hep : (digs n).toList = s.toList := by rw [he]
      clear he
      rw [if_neg (by decide)] at H1
      obtain ⟨rfl, rfl, rfl⟩ : n = r1 ∧ false = r2 ∧ true = r3 := by simpa using H1
      go_wp2
      go_ret3
      exact ⟨rfl, HB2.out⟩
     ·have hq : (digs n).toList ≠ s.toList := fun h => he (ByteArray.ext (Array.toList_inj.mp (by rw [ByteArray.toList_eq, ByteArray.toList_eq] at h; exact h)))
      have hee : ((digs n).toList == s.toList) = false := beq_eq_false_iff_ne.mpr hq
      have hen : ((digs n).toList != s.toList) = true := bne_iff_ne.mpr hq
      rw [if_neg he] at H1
      clear he
      obtain ⟨rfl, rfl, rfl⟩ : (0 : Int) = r1 ∧ false = r2 ∧ false = r3 := by simpa using H1
      go_wp2
      go_ret3
      exact ⟨rfl, HB2.out⟩
   | true =>
    have hsz : 0 < s.size := by
     rcases Nat.eq_zero_or_pos s.size with hz | hz
     ·have := (minus_nil (s := s) (List.eq_nil_of_length_eq_zero (by rw [ByteArray.toList_eq, Array.length_toList]; exact hz))).1
      rw [hm] at this; cases this
     ·exact hz
    have hsz1 : 1 ≤ s.size := hsz
    have hszi : (1 : Int) ≤ (s.size : Int) := by omega
    have hszd := eq_true hszi
    have hdd := dOf_minus hm
    obtain ⟨d, hd⟩ : ∃ d, dOf s = d := ⟨_, rfl⟩
    have HE := Aside0.mk (hdd.trans hd)
    have HQ := Aside0.mk (show glossaryref01_Number.f k d = some (n, is) by rw [← hd]; exact HQ0.out)
    have H1 := H0.out
    rw [hd, hm] at H1
    have H := Aside0.mk H1
    clear H1 hdd hd hm HQ0 H0
    go_wp2_with (fail)
    rw [show s.extract 1 s.size = d from HE.out]
    refine (glossaryref01_Number.calls k d n is _ HQ.out).mono ?_
    rintro e w1 ⟨rfl, hb⟩
    have HB1 := Aside0.mk (drawn_below hb)
    clear hb
    cases is with
    | false =>
     obtain ⟨rfl, rfl, rfl⟩ : (0 : Int) = r1 ∧ false = r2 ∧ false = r3 := by simpa using H.out
     go_wp2
     go_ret3
     exact ⟨rfl, HB1.out⟩
    | true =>
     have H1 := H.out
     rw [if_pos rfl] at H1
     go_wp2_with (fail)
     refine (glossaryref01_Digits.calls n (digs n) _ (by unfold glossaryref01_Digits.f; rw [if_pos HN.out])).mono ?_
     rintro e w2 ⟨rfl, hb⟩
     have HB2 := Aside0.mk (below_step HB1.out hb)
     clear hb
     by_cases he : digs n = d
     ·have hee : ((digs n).toList == d.toList) = true := by rw [he]; simp
      have hen : ((digs n).toList != d.toList) = false := by rw [he]; simp
      rw [if_pos he] at H1
      have hep : (digs n).toList = d.toList := by rw [he]
      clear he
      rw [if_pos trivial] at H1
      by_cases h0 : n = 0
      ·have h0b : (n == 0) = true := beq_iff_eq.mpr h0
       rw [if_pos h0] at H1
       clear h0
       obtain ⟨rfl, rfl, rfl⟩ : (0 : Int) = r1 ∧ false = r2 ∧ false = r3 := by simpa using H1
       go_wp2
       go_ret3
       exact ⟨rfl, HB2.out⟩
      ·have h0b : (n == 0) = false := beq_eq_false_iff_ne.mpr h0
       rw [if_neg h0] at H1
       clear h0
       by_cases h1 : n > 9223372036854775808
       ·have h1b : decide (9223372036854775808 < n) = true := decide_eq_true h1
        rw [if_pos h1] at H1
        clear h1
        obtain ⟨rfl, rfl, rfl⟩ : (0 : Int) = r1 ∧ false = r2 ∧ false = r3 := by simpa using H1
        go_wp2
        go_ret3
        exact ⟨rfl, HB2.out⟩
       ·have h1b : decide (9223372036854775808 < n) = false := decide_eq_false h1
        rw [if_neg h1] at H1
        clear h1
        obtain ⟨rfl, rfl, rfl⟩ : n = r1 ∧ true = r2 ∧ true = r3 := by simpa using H1
        go_wp2
        go_ret3
        exact ⟨rfl, HB2.out⟩
     ·have hq : (digs n).toList ≠ d.toList := fun h => he (ByteArray.ext (Array.toList_inj.mp (by rw [ByteArray.toList_eq, ByteArray.toList_eq] at h; exact h)))
      have hee : ((digs n).toList == d.toList) = false := beq_eq_false_iff_ne.mpr hq
      have hen : ((digs n).toList != d.toList) = true := bne_iff_ne.mpr hq
      rw [if_neg he] at H1
      clear he
      obtain ⟨rfl, rfl, rfl⟩ : (0 : Int) = r1 ∧ false = r2 ∧ false = r3 := by simpa using H1
      go_wp2
      go_ret3
      exact ⟨rfl, HB2.out⟩
 ·cases h
end Go.Proofs.YtdkepckkihclgaaGreatDoor.PNodeChecks

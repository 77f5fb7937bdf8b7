/- The law NodeChecks, whatever the tree: node.Check and the document's answer agree on every tree that is few; the row is proved over the whole first form (no bound on what comes in) and tied to the program's text. -/
import Derived.Test.YtdkepckkihclgaaGreatDoorM28
import Derived.Test.YtdkepckkihclgaaGreatDoorCards
import Derived.Test.YtdkepckkihclgaaGreatDoorTie
import Derived.WalkKit
import Derived.ProofKit
import Derived.OpenShut
import Derived.ShutString
import Derived.ChangeOld
import Derived.Below
import Derived.SizedLaws
import Derived.Deep.DeepHandedRow
import Derived.Lib.LaidTab
import Derived.Shelf.Vars
import Derived.Deep.Slices
import Derived.SevenTiedAt
namespace Go.Proofs.YtdkepckkihclgaaGreatDoor.PNodeChecks
open Go.RowKit Go.Proofs.YtdkepckkihclgaaGreatDoorW.PrintWords Go.Proofs.YtdkepckkihclgaaGreatDoorW.PrintLast Go.Proofs.YtdkepckkihclgaaGreatDoorW.PrintMore
set_option linter.unusedVariables false
set_option linter.unusedSimpArgs false
theorem doc_f (kd : Int) (h : 1 ≤ kd ∧ kd ≤ 24) : glossaryref07_documented.f kd = some (dcB kd) := by
 have hk : kd = 1 ∨ kd = 2 ∨ kd = 3 ∨ kd = 4 ∨ kd = 5 ∨ kd = 6 ∨ kd = 7 ∨ kd = 8 ∨ kd = 9 ∨ kd = 10 ∨ kd = 11 ∨ kd = 12 ∨ kd = 13 ∨ kd = 14 ∨ kd = 15 ∨ kd = 16 ∨ kd = 17 ∨ kd = 18 ∨ kd = 19 ∨ kd = 20 ∨ kd = 21 ∨ kd = 22 ∨ kd = 23 ∨ kd = 24 := by omega
 rcases hk with rfl | rfl | rfl | rfl | rfl | rfl | rfl | rfl | rfl | rfl | rfl | rfl | rfl | rfl | rfl | rfl | rfl | rfl | rfl | rfl | rfl | rfl | rfl | rfl <;> rfl
theorem mk_val (kd : Int) (h : 1 ≤ kd ∧ kd ≤ 24) : mkB kd = if kd = 2 ∨ kd = 19 ∨ kd = 24 then 1 else if kd = 9 ∨ kd = 17 then 3 else 0 := by
 have hk : kd = 1 ∨ kd = 2 ∨ kd = 3 ∨ kd = 4 ∨ kd = 5 ∨ kd = 6 ∨ kd = 7 ∨ kd = 8 ∨ kd = 9 ∨ kd = 10 ∨ kd = 11 ∨ kd = 12 ∨ kd = 13 ∨ kd = 14 ∨ kd = 15 ∨ kd = 16 ∨ kd = 17 ∨ kd = 18 ∨ kd = 19 ∨ kd = 20 ∨ kd = 21 ∨ kd = 22 ∨ kd = 23 ∨ kd = 24 := by omega
 rcases hk with rfl | rfl | rfl | rfl | rfl | rfl | rfl | rfl | rfl | rfl | rfl | rfl | rfl | rfl | rfl | rfl | rfl | rfl | rfl | rfl | rfl | rfl | rfl | rfl <;> rfl
def ownEnd (x : S24) (k : Nat) : Option Bool := (glossaryref07_text.f k x.f0 x.f1 x.f2 x.f3 x.f4 x.f5 x.f6 x.f7).bind fun t => if t = true then ((glossaryref07_number.f k x.f0 x.f1 x.f2 x.f3 x.f4 x.f5 x.f6 x.f7).bind fun n => if n = true then ((glossaryref07_kids.f k x.f0 x.f1 x.f2 x.f3 x.f4 x.f5 x.f6 x.f7).bind fun q => some q) else some false) else some false
theorem E_ownEnd (x : S24) (t n q : Bool) (ht : Ev (fun k => glossaryref07_text.f k x.f0 x.f1 x.f2 x.f3 x.f4 x.f5 x.f6 x.f7) t) (hn : Ev (fun k => glossaryref07_number.f k x.f0 x.f1 x.f2 x.f3 x.f4 x.f5 x.f6 x.f7) n) (hq : Ev (fun k => glossaryref07_kids.f k x.f0 x.f1 x.f2 x.f3 x.f4 x.f5 x.f6 x.f7) q) : Ev (ownEnd x) (t && (n && q)) := by
 unfold ownEnd
 refine Ev.bind ht ?_
 cases t with
 | false => exact Ev.now _
 | true =>
  simp only [if_true, Bool.true_and]
  refine Ev.bind hn ?_
  cases n with
  | false => exact Ev.now _
  | true =>
   simp only [if_true, Bool.true_and]
   exact Ev.bind (f := fun _ q => some q) hq (Ev.now _)
theorem E_end (x : S24) (r : Bool) (m : Int) (h : Ev (ownEnd x) r) (k4 : Bool) (e4 : k4 = (!(decide (x.f4 < 0)) && !(decide (m < x.f4)))) : Ev (fun k => if x.f4 ≥ 0 then (if x.f4 ≤ m then ownEnd x k else some false) else some false) (k4 && r) := by
 subst e4
 by_cases a : 0 ≤ x.f4
 ·by_cases b : x.f4 ≤ m
  ·refine Ev.congr (f := ownEnd x) (fun k => by rw [if_pos a, if_pos b]) ?_
   have a' : decide (x.f4 < 0) = false := decide_eq_false (by omega)
   have b' : decide (m < x.f4) = false := decide_eq_false (by omega)
   rw [a', b']
   exact h
  ·refine Ev.all fun k => ?_
   have b' : decide (m < x.f4) = true := decide_eq_true (by omega)
   rw [if_pos a, if_neg b, b']
   simp
 ·refine Ev.all fun k => ?_
  have a' : decide (x.f4 < 0) = true := decide_eq_true (by omega)
  rw [if_neg a, a']
  rfl
theorem E_j2 (x : S24) (hk : 1 ≤ x.f0 ∧ x.f0 ≤ 24) (r : Bool) (h : Ev (ownEnd x) r) (k4 : Bool) (e4 : k4 = (!(decide (x.f4 < 0)) && !(decide (mkB x.f0 < x.f4)))) : Ev (fun k => glossaryref07_own.j1 k x.f0 false x.f0 x.f1 x.f2 x.f3 x.f4 x.f5 x.f6 x.f7) (k4 && r) := by
 have hm := mk_val x.f0 hk
 have j3t : mkB x.f0 = 3 → Ev (fun k => glossaryref07_own.j3 k 0 true x.f0 x.f1 x.f2 x.f3 x.f4 x.f5 x.f6 x.f7) (k4 && r) := fun e => Ev.step (fun k => by simp only [glossaryref07_own.j3, if_true]; rfl) (E_end x r 3 h k4 (by rw [e4, e]))
 have j3f : mkB x.f0 = 0 → Ev (fun k => glossaryref07_own.j3 k 0 false x.f0 x.f1 x.f2 x.f3 x.f4 x.f5 x.f6 x.f7) (k4 && r) := fun e => Ev.step (fun k => by simp only [glossaryref07_own.j3, Bool.false_eq_true, if_false]; rfl) (E_end x r 0 h k4 (by rw [e4, e]))
 have j2t : mkB x.f0 = 1 → Ev (fun k => glossaryref07_own.j2 k 0 x.f0 true x.f0 x.f1 x.f2 x.f3 x.f4 x.f5 x.f6 x.f7) (k4 && r) := fun e => Ev.step (fun k => by simp only [glossaryref07_own.j2, if_true]; rfl) (E_end x r 1 h k4 (by rw [e4, e]))
 have j2f : ¬ (x.f0 = 2 ∨ x.f0 = 19 ∨ x.f0 = 24) → Ev (fun k => glossaryref07_own.j2 k 0 x.f0 false x.f0 x.f1 x.f2 x.f3 x.f4 x.f5 x.f6 x.f7) (k4 && r) := by
  intro e
  rw [if_neg e] at hm
  by_cases h9 : x.f0 = 9
  ·rw [if_pos (Or.inl h9)] at hm
   exact Ev.step (fun k => by simp only [glossaryref07_own.j2, Bool.false_eq_true, if_false]; rw [if_pos h9, beq_iff_eq.mpr h9]) (j3t hm)
  ·by_cases h17 : x.f0 = 17
   ·rw [if_pos (Or.inr h17)] at hm
    exact Ev.step (fun k => by simp only [glossaryref07_own.j2, Bool.false_eq_true, if_false]; rw [if_neg h9, beq_iff_eq.mpr h17]) (j3t hm)
   ·rw [if_neg (by omega)] at hm
    exact Ev.step (fun k => by simp only [glossaryref07_own.j2, Bool.false_eq_true, if_false]; rw [if_neg h9, beq_eq_false_iff_ne.mpr h17]) (j3f hm)
 by_cases h2 : x.f0 = 2
 ·rw [if_pos (Or.inl h2)] at hm
  exact Ev.step (fun k => by simp only [glossaryref07_own.j1, Bool.false_eq_true, if_false]; rw [if_pos h2, beq_iff_eq.mpr h2]) (j2t hm)
 ·by_cases h19 : x.f0 = 19
  ·rw [if_pos (by omega)] at hm
   exact Ev.step (fun k => by simp only [glossaryref07_own.j1, Bool.false_eq_true, if_false]; rw [if_neg h2, if_pos h19, beq_iff_eq.mpr h19]) (j2t hm)
  ·by_cases h24 : x.f0 = 24
   ·rw [if_pos (by omega)] at hm
    exact Ev.step (fun k => by simp only [glossaryref07_own.j1, Bool.false_eq_true, if_false]; rw [if_neg h2, if_neg h19, beq_iff_eq.mpr h24]) (j2t hm)
   ·exact Ev.step (fun k => by simp only [glossaryref07_own.j1, Bool.false_eq_true, if_false]; rw [if_neg h2, if_neg h19, beq_eq_false_iff_ne.mpr h24]) (j2f (by omega))
theorem E_j0 (x : S24) (hk : 1 ≤ x.f0 ∧ x.f0 ≤ 24) (r : Bool) (h : Ev (ownEnd x) r) (k4 : Bool) (e4 : k4 = (!(decide (x.f4 < 0)) && !(decide (mkB x.f0 < x.f4)))) : Ev (fun k => glossaryref07_own.j0 k x.f0 false x.f0 x.f1 x.f2 x.f3 x.f4 x.f5 x.f6 x.f7) (numB x && (k4 && r)) := by
 have jf := E_j2 x hk r h k4 e4
 have jt : Ev (fun k => glossaryref07_own.j1 k x.f0 true x.f0 x.f1 x.f2 x.f3 x.f4 x.f5 x.f6 x.f7) false := Ev.suc fun k => by simp only [glossaryref07_own.j1]; rfl
 unfold numB n1B n2B
 by_cases h3 : x.f3 = 0
 ·by_cases h2 : x.f2 = 0
  ·refine Ev.step (fun k => by simp only [glossaryref07_own.j0, Bool.false_eq_true, if_false]; rw [if_pos h3, if_pos h2]) (?_)
   rw [beq_iff_eq.mpr h3, beq_iff_eq.mpr h2]; simpa using jf
  ·have b2 : (x.f2 == 0) = false := beq_eq_false_iff_ne.mpr h2
   by_cases a14 : x.f0 = 14
   ·refine Ev.step (fun k => by simp only [glossaryref07_own.j0, Bool.false_eq_true, if_false]; rw [if_pos h3, if_neg h2, if_pos a14]) (?_)
    simpa [h3, b2, a14] using jf
   ·by_cases a9 : x.f0 = 9
    ·refine Ev.step (fun k => by simp only [glossaryref07_own.j0, Bool.false_eq_true, if_false]; rw [if_pos h3, if_neg h2, if_neg a14, if_pos a9]) (?_)
     simpa [h3, b2, a9] using jf
    ·by_cases a10 : x.f0 = 10
     ·refine Ev.step (fun k => by simp only [glossaryref07_own.j0, Bool.false_eq_true, if_false]; rw [if_pos h3, if_neg h2, if_neg a14, if_neg a9, if_pos a10]) (?_)
      simpa [h3, b2, a10] using jf
     ·by_cases a16 : x.f0 = 16
      ·refine Ev.step (fun k => by simp only [glossaryref07_own.j0, Bool.false_eq_true, if_false]; rw [if_pos h3, if_neg h2, if_neg a14, if_neg a9, if_neg a10, bne_eq_false_iff_eq.mpr a16]) (?_)
       simpa [h3, b2, a16] using jf
      ·refine Ev.step (fun k => by simp only [glossaryref07_own.j0, Bool.false_eq_true, if_false]; rw [if_pos h3, if_neg h2, if_neg a14, if_neg a9, if_neg a10, bne_iff_ne.mpr a16]) (?_)
       rw [b2, beq_eq_false_iff_ne.mpr a9, beq_eq_false_iff_ne.mpr a10, beq_eq_false_iff_ne.mpr a16, beq_eq_false_iff_ne.mpr a14]
       exact jt
 ·have b3 : (x.f3 == 0) = false := beq_eq_false_iff_ne.mpr h3
  by_cases a14 : x.f0 = 14
  ·refine Ev.step (f := fun k => glossaryref07_own.j1 k x.f0 false x.f0 x.f1 x.f2 x.f3 x.f4 x.f5 x.f6 x.f7) (fun k => ?_) (?_)
   ·simp only [glossaryref07_own.j0, Bool.false_eq_true, if_false]
    rw [if_neg h3, if_pos a14]
    split <;> rfl
   ·simpa [b3, a14] using jf
  ·refine Ev.step (fun k => by simp only [glossaryref07_own.j0, Bool.false_eq_true, if_false]; rw [if_neg h3, if_neg a14]) (?_)
   rw [b3, beq_eq_false_iff_ne.mpr a14]
   simpa using jt
theorem E_own (x : S24) (hk : 1 ≤ x.f0 ∧ x.f0 ≤ 24) (h6 : x.f6.size ≤ 2000) (r : Bool) (h : Ev (ownEnd x) r) : Ev (fun k => glossaryref07_own.f k x.f0 x.f1 x.f2 x.f3 x.f4 x.f5 x.f6 x.f7) (headB x && (docB x && (numB x && r))) := by
 obtain ⟨k4, e4⟩ : ∃ k4, k4 = (!(decide (x.f4 < 0)) && !(decide (mkB x.f0 < x.f4))) := ⟨_, rfl⟩
 have jf := E_j0 x hk r h k4 e4
 have jt : Ev (fun k => glossaryref07_own.j0 k x.f0 true x.f0 x.f1 x.f2 x.f3 x.f4 x.f5 x.f6 x.f7) false := Ev.suc fun k => by simp only [glossaryref07_own.j0]; rfl
 have hh : headB x = (!(decide (x.f5 < 0)) && k4) := by
  unfold headB
  rw [← e4, decide_eq_true hk.1, decide_eq_true hk.2]
  rfl
 have target : (headB x && (docB x && (numB x && r))) = (!(decide (x.f5 < 0)) && (docB x && (numB x && (k4 && r)))) := by
  rw [hh]
  cases (decide (x.f5 < 0)) <;> cases k4 <;> cases docB x <;> cases numB x <;> rfl
 rw [target]
 unfold glossaryref07_own.f
 by_cases h5 : x.f5 < 0
 ·refine Ev.congr (fun k => by rw [if_pos h5]) ?_
  rw [decide_eq_true h5]
  exact jt
 ·rw [decide_eq_false h5]
  simp only [Bool.not_false, Bool.true_and]
  by_cases h0 : x.f6.toList = []
  ·refine Ev.congr (fun k => by rw [if_neg h5, if_pos h0]) ?_
   have : docB x = true := by unfold docB; rw [h0]; rfl
   rw [this]
   exact jf
  ·have hp : 0 < x.f6.size := by
    rw [← L_len]
    exact List.length_pos_iff.2 (fun e => h0 (by rw [tl]; exact e))
   have hw : wrap64 ((x.f6.size : Int) - 1) = (x.f6.size : Int) - 1 := by unfold wrap64; omega
   have hb0 : (x.f6.toList == ([] : List UInt8)) = false := beq_eq_false_iff_ne.mpr h0
   have hbig : decide (10000 < x.f6.size) = false := decide_eq_false (by omega)
   have hbig2 : decide ((x.f6.size : Int) > 10000) = false := decide_eq_false (by omega)
   have hdoc : docB x = (dcB x.f0 && (bt x.f6 ((x.f6.size : Int) - 1) == 10)) := by
    unfold docB
    rw [hb0, hbig]
    simp
   rw [hdoc]
   cases hd : dcB x.f0 with
   | false =>
    refine Ev.congr (f := fun k => glossaryref07_own.j0 k x.f0 true x.f0 x.f1 x.f2 x.f3 x.f4 x.f5 x.f6 x.f7) (fun k => ?_) jt
    rw [if_neg h5, if_neg h0, doc_f x.f0 hk, hd]
    rfl
   | true =>
    by_cases h10 : bt x.f6 ((x.f6.size : Int) - 1) = 10
    ·refine Ev.congr (f := fun k => glossaryref07_own.j0 k x.f0 false x.f0 x.f1 x.f2 x.f3 x.f4 x.f5 x.f6 x.f7) (fun k => ?_) (by rw [h10]; simpa using jf)
     rw [if_neg h5, if_neg h0, doc_f x.f0 hk, hd, hw, hbig2, Option.bind_some, if_pos rfl, if_pos (by omega), if_pos (by omega), if_pos h10]
    ·refine Ev.congr (f := fun k => glossaryref07_own.j0 k x.f0 true x.f0 x.f1 x.f2 x.f3 x.f4 x.f5 x.f6 x.f7) (fun k => ?_) (by rw [beq_eq_false_iff_ne.mpr h10]; simpa using jt)
     rw [if_neg h5, if_neg h0, doc_f x.f0 hk, hd, hw, Option.bind_some, if_pos rfl, if_pos (by omega), if_pos (by omega), if_neg h10]
theorem right_agree (x : S24) : cnt x ≤ 4000 → okS x = true → 1 ≤ x.f0 ∧ x.f0 ≤ 24 → ∃ b, Ev (fun k => rightF k x) b ∧ Ev (fun k => glossaryref07_right.f k x.f0 x.f1 x.f2 x.f3 x.f4 x.f5 x.f6 x.f7) b := by
 refine S24.ind (P := fun x => cnt x ≤ 4000 → okS x = true → 1 ≤ x.f0 ∧ x.f0 ≤ 24 → ∃ b, Ev (fun k => rightF k x) b ∧ Ev (fun k => glossaryref07_right.f k x.f0 x.f1 x.f2 x.f3 x.f4 x.f5 x.f6 x.f7) b) ?_ x
 intro x ih hc ho hk
 have hce := cnt_eq x
 have hll := len_cnt x.f7
 rw [okS_eq, Bool.and_eq_true, Bool.and_eq_true] at ho
 obtain ⟨o1, o6, ol⟩ := ho
 have o1 := of_decide_eq_true o1
 have o6 := of_decide_eq_true o6
 obtain ⟨t, t1, t2⟩ := text_agree x o1 hk
 obtain ⟨n, n1, n2⟩ := num_agree x hk
 obtain ⟨q, q1, q2, q3⟩ := kids_agree x.f0 hk x.f7 (by omega)
 have hown := E_own x hk o6 _ (E_ownEnd x t n q t2 n2 q2)
 have prog : ∀ b, (q = true → Ev (fun k => rightL k x.f7 0) b) → Ev (fun k => rightF k x) (headB x && (docB x && (numB x && (t && (n && (q && b)))))) := by
  intro b hb
  refine Ev.step (f := fun k => if headB x = true then (if docB x = true then (if numB x = true then ((textB k x.f0 x).bind fun t => if t = true then ((numsB k x.f0 x).bind fun n => if n = true then ((kidsB k x.f0 x.f7).bind fun q => if q = true then rightL k x.f7 0 else some false) else some false) else some false) else some false) else some false) else some false) (fun k => ?_) ?_
  ·simp only [rightF]
   rw [if_pos ⟨by omega, by omega⟩]
  ·cases headB x with
   | false => exact Ev.now _
   | true =>
    cases docB x with
    | false => exact Ev.now _
    | true =>
     cases numB x with
     | false => exact Ev.now _
     | true =>
      simp only [if_true, Bool.true_and]
      refine Ev.bind t1 ?_
      cases t with
      | false => exact Ev.now _
      | true =>
       simp only [if_true, Bool.true_and]
       refine Ev.bind n1 ?_
       cases n with
       | false => exact Ev.now _
       | true =>
        simp only [if_true, Bool.true_and]
        refine Ev.bind q1 ?_
        cases q with
        | false => exact Ev.now _
        | true =>
         simp only [if_true, Bool.true_and]
         exact hb rfl
 cases ha : (headB x && (docB x && (numB x && (t && (n && q))))) with
 | false =>
  rw [ha] at hown
  by_cases hq : q = true
  ·obtain ⟨b, hb⟩ : ∃ b, b = false := ⟨_, rfl⟩
   have hz : (headB x && (docB x && (numB x && (t && n)))) = false := by
    rw [hq] at ha
    simpa using ha
   refine ⟨false, ?_, Ev.step (f := fun k => (glossaryref07_own.f k x.f0 x.f1 x.f2 x.f3 x.f4 x.f5 x.f6 x.f7).bind fun t => if t = true then glossaryref07_right.l0 k x.f7 (x.f7.length : Int) 0 else some false) (fun k => by simp only [glossaryref07_right.f]) (Ev.bind hown (Ev.now _))⟩
   refine Ev.step (f := fun k => if headB x = true then (if docB x = true then (if numB x = true then ((textB k x.f0 x).bind fun t => if t = true then ((numsB k x.f0 x).bind fun n => if n = true then ((kidsB k x.f0 x.f7).bind fun q => if q = true then rightL k x.f7 0 else some false) else some false) else some false) else some false) else some false) else some false) (fun k => ?_) ?_
   ·simp only [rightF]
    rw [if_pos ⟨by omega, by omega⟩]
   ·cases hh1 : headB x with
    | false => exact Ev.now _
    | true =>
     cases hh2 : docB x with
     | false => exact Ev.now _
     | true =>
      cases hh3 : numB x with
      | false => exact Ev.now _
      | true =>
       simp only [if_true]
       refine Ev.bind t1 ?_
       cases t with
       | false => exact Ev.now _
       | true =>
        simp only [if_true]
        refine Ev.bind n1 ?_
        cases n with
        | false => exact Ev.now _
        | true => rw [hh1, hh2, hh3] at hz; exact absurd hz (by decide)
  ·have hq : q = false := by simpa using hq
   have := prog false (fun e => by rw [hq] at e; exact absurd e (by decide))
   rw [hq] at this
   simp only [Bool.false_and, Bool.and_false] at this
   exact ⟨false, this, Ev.step (f := fun k => (glossaryref07_own.f k x.f0 x.f1 x.f2 x.f3 x.f4 x.f5 x.f6 x.f7).bind fun t => if t = true then glossaryref07_right.l0 k x.f7 (x.f7.length : Int) 0 else some false) (fun k => by simp only [glossaryref07_right.f]) (Ev.bind hown (Ev.now _))⟩
 | true =>
  rw [ha] at hown
  simp only [Bool.and_eq_true] at ha
  obtain ⟨g1, g2, g3, g4, g5, g6⟩ := ha
  have loop : ∀ (m j : Nat), j + m = x.f7.length → ∃ b, Ev (fun k => rightL k x.f7 (j : Int)) b ∧ Ev (fun k => glossaryref07_right.l0 k x.f7 (x.f7.length : Int) (j : Int)) b := by
   intro m
   induction m with
   | zero =>
    intro j hj
    refine ⟨true, Ev.suc fun k => ?_, Ev.suc fun k => ?_⟩
    ·simp only [rightL]; rw [if_neg (by omega)]
    ·simp only [glossaryref07_right.l0]; rw [if_neg (by omega)]
   | succ m ihm =>
    intro j hj
    have hlt : j < x.f7.length := by omega
    have hmem := List.getElem_mem hlt
    have hcm := cnt_mem hmem
    obtain ⟨b1, e1, e2⟩ := ih _ hmem (by omega) (ok_mem ol _ hmem) (q3 g6 _ hmem)
    obtain ⟨b2, f1, f2⟩ := ihm (j + 1) (by omega)
    have s1 : ∀ k, rightL (k + 1) x.f7 (j : Int) = (rightF k x.f7[j]).bind fun b => if b = true then rightL k x.f7 ((j + 1 : Nat) : Int) else some false := by
     intro k
     simp only [rightL]
     rw [if_pos (by omega), if_pos (by omega), rd_at _ j hlt, w1 j (by omega)]
    have s2 : ∀ k, glossaryref07_right.l0 (k + 1) x.f7 (x.f7.length : Int) (j : Int) = (glossaryref07_right.f k x.f7[j].f0 x.f7[j].f1 x.f7[j].f2 x.f7[j].f3 x.f7[j].f4 x.f7[j].f5 x.f7[j].f6 x.f7[j].f7).bind fun b => if b = true then glossaryref07_right.l0 k x.f7 (x.f7.length : Int) ((j + 1 : Nat) : Int) else some false := by
     intro k
     simp only [glossaryref07_right.l0]
     rw [if_pos (by omega), if_pos (by omega), if_pos (by omega), rd_at _ j hlt, w1 j (by omega)]
    refine ⟨if b1 = true then b2 else false, Ev.step s1 (Ev.bind e1 ?_), Ev.step s2 (Ev.bind e2 ?_)⟩
    ·cases b1 with
     | false => exact Ev.now _
     | true => exact f1
    ·cases b1 with
     | false => exact Ev.now _
     | true => exact f2
  obtain ⟨b, l1, l2⟩ := loop x.f7.length 0 (Nat.zero_add _)
  have hp := prog b (fun _ => l1)
  rw [g1, g2, g3, g4, g5, g6] at hp
  simp only [Bool.true_and] at hp
  refine ⟨b, hp, Ev.step (f := fun k => (glossaryref07_own.f k x.f0 x.f1 x.f2 x.f3 x.f4 x.f5 x.f6 x.f7).bind fun t => if t = true then glossaryref07_right.l0 k x.f7 (x.f7.length : Int) 0 else some false) (fun k => by simp only [glossaryref07_right.f]) (Ev.bind hown ?_)⟩
  exact l2
theorem check_agree (x : S24) (hc : cnt x ≤ 400) (ho : okS x = true) : ∃ b, Ev (fun k => checkF k x) b ∧ Ev (fun k => glossaryref07_Check.f k x.f0 x.f1 x.f2 x.f3 x.f4 x.f5 x.f6 x.f7) b := by
 unfold checkF glossaryref07_Check.f
 by_cases h1 : x.f0 = 1
 ·obtain ⟨b, r1, r2⟩ := right_agree x (by omega) ho (by omega)
  have c1 := cnt_prog x 0 (by decide) (by omega)
  have c2 := cnt_ref x 0 (by decide) (by omega)
  obtain ⟨d1, e1, p1⟩ := dp_prog x (by omega) 1 (by decide) (by decide)
  obtain ⟨d2, e2, p2⟩ := dp_ref x (by omega) 1 (by decide) (by decide)
  have C1 : Ev (fun k => node_Count.f k x.f0 x.f1 x.f2 x.f3 x.f4 x.f5 x.f6 x.f7) (0 + (cnt x : Int)) := by
   unfold node_Count.f
   refine Ev.bind c1 ?_
   refine Ev.all fun k => ?_
   rw [if_neg (by omega)]
  have C2 : Ev (fun k => glossaryref07_Count.f k x.f0 x.f1 x.f2 x.f3 x.f4 x.f5 x.f6 x.f7) (0 + (cnt x : Int)) := by
   unfold glossaryref07_Count.f
   refine Ev.bind c2 (Ev.all fun k => ?_)
   unfold mn
   rw [if_neg (by omega)]
  have hlt : ¬ (0 + (cnt x : Int) > 20000) := by omega
  have hle : 0 + (cnt x : Int) ≤ 20000 := by omega
  unfold dpOk at p1 p2
  by_cases hd : 1 + (depS x.f7 : Int) ≤ 64
  ·have v1 := p1.1 hd
   have v2 := p2.1 hd
   have D1 : Ev (fun k => node_Deep.f k x.f0 x.f1 x.f2 x.f3 x.f4 x.f5 x.f6 x.f7) d1 := by
    unfold node_Deep.f
    refine Ev.bind e1 (Ev.all fun k => ?_)
    rw [if_pos (by omega)]
   have D2 : Ev (fun k => glossaryref07_Deep.f k x.f0 x.f1 x.f2 x.f3 x.f4 x.f5 x.f6 x.f7) d2 := by
    unfold glossaryref07_Deep.f
    refine Ev.bind e2 (Ev.all fun k => ?_)
    rw [if_neg (by omega)]
   refine ⟨b, Ev.congr (fun k => by rw [if_pos h1]) (Ev.bind C1 (Ev.congr (fun k => by rw [if_pos hle]) (Ev.bind D1 (Ev.congr (fun k => by rw [if_pos (by omega)]) r1)))), Ev.congr (fun k => by rw [if_pos h1]) (Ev.bind C2 (Ev.congr (fun k => by rw [if_pos hle]) (Ev.bind D2 (Ev.congr (fun k => by rw [if_pos (by omega)]) (Ev.bind (f := fun _ t => some t) r2 (Ev.now _))))))⟩
  ·have v1 := p1.2 (by omega)
   have v2 := p2.2 (by omega)
   have D1 : Ev (fun k => node_Deep.f k x.f0 x.f1 x.f2 x.f3 x.f4 x.f5 x.f6 x.f7) 100 := by
    unfold node_Deep.f
    refine Ev.bind e1 (Ev.all fun k => ?_)
    rw [if_neg (by omega)]
   have D2 : Ev (fun k => glossaryref07_Deep.f k x.f0 x.f1 x.f2 x.f3 x.f4 x.f5 x.f6 x.f7) 100 := by
    unfold glossaryref07_Deep.f
    refine Ev.bind e2 (Ev.all fun k => ?_)
    rw [if_pos (by omega)]
   refine ⟨false, Ev.congr (fun k => by rw [if_pos h1]) (Ev.bind C1 (Ev.congr (fun k => by rw [if_pos hle]) (Ev.bind D1 (Ev.all fun k => by rw [if_neg (by decide)])))), Ev.congr (fun k => by rw [if_pos h1]) (Ev.bind C2 (Ev.congr (fun k => by rw [if_pos hle]) (Ev.bind D2 (Ev.all fun k => by rw [if_neg (by decide)]))))⟩
 ·exact ⟨false, Ev.all fun k => by rw [if_neg h1], Ev.all fun k => by rw [if_neg h1]⟩
theorem pure_law (x : S24) : ∃ k, glossarylaw07_NodeChecks.f k x.f0 x.f1 x.f2 x.f3 x.f4 x.f5 x.f6 x.f7 = some true := by
 refine Ev.rounds (g := fun k => glossarylaw07_NodeChecks.f k x.f0 x.f1 x.f2 x.f3 x.f4 x.f5 x.f6 x.f7) ?_
 unfold glossarylaw07_NodeChecks.f glossarylaw07_awake.f
 simp only [Option.bind_some, if_true]
 obtain ⟨b, hb, hs⟩ := E_few x
 refine Ev.bind hb ?_
 cases b with
 | false => exact Ev.now _
 | true =>
  simp only [if_true]
  obtain ⟨hc, ho⟩ := hs rfl
  obtain ⟨c, c1, c2⟩ := check_agree x hc ho
  have c1 : Ev (fun k => node_Check.f k x.f0 x.f1 x.f2 x.f3 x.f4 x.f5 x.f6 x.f7) c := Ev.congr (fun k => by unfold node_Check.f; cases x; rfl) c1
  refine Ev.bind c1 (Ev.bind (f := fun _ t => some (c == t)) c2 ?_)
  simp only [beq_self_eq_true]
  exact Ev.now _
end Go.Proofs.YtdkepckkihclgaaGreatDoor.PNodeChecks
namespace Go.Proofs.YtdkepckkihclgaaGreatDoor.nodeChecks
open Go.ChangeShapes Go.WideShapes Go.ChangeAt Go.RowKit
open Go.Proofs.YtdkepckkihclgaaGreatDoor.PNodeChecks Go.Proofs.YtdkepckkihclgaaGreatDoorW.PrintWords Go.Proofs.YtdkepckkihclgaaGreatDoorW.PrintLast Go.Proofs.YtdkepckkihclgaaGreatDoorW.PrintMore
set_option linter.unusedVariables false
set_option linter.unusedSimpArgs false
theorem own : ownKnob Tryz.prog.godebug = none := by kernel_rfl
theorem laidOut : laidOutB Tryz.prog = true := by kernel_rfl
theorem cells24 : Tryz.prog.cellsOf 24 = 8 := by kernel_rfl
theorem cells3 : Tryz.prog.cellsOf 3 = 1 := by kernel_rfl
theorem cells2 : Tryz.prog.cellsOf 2 = 1 := by kernel_rfl
theorem cells9 : Tryz.prog.cellsOf 9 = 1 := by kernel_rfl
theorem cells22 : Tryz.prog.cellsOf 22 = 1 := by kernel_rfl
theorem eight {α : Type} {l : List α} (h : l.length = 8) : ∃ a b c d e f g i, l = [a, b, c, d, e, f, g, i] := by
 match l, h with
 | [a, b, c, d, e, f, g, i], _ => exact ⟨a, b, c, d, e, f, g, i, rfl⟩
theorem cells_at {w : World} {b : Nat} {a : Addr} {n : Nat} {cs : List Value} (h : w.cells? b a n = some cs) : cs.length = n ∧ ∀ i u, cs[i]? = some u → w.cell? (a.add i) = some u := by
 obtain ⟨_, hl, hc⟩ := World.cells?_some h
 refine ⟨hl, fun i u hu => ?_⟩
 have hi : i < n := by rw [← hl]; exact (List.getElem?_eq_some_iff.1 hu).1
 rw [hc i hi, hu]
theorem add_twice (a : Addr) (i j : Nat) : (a.add i).add j = a.add (i + j) := by
 unfold Addr.add
 by_cases hi : i = 0 <;> by_cases hj : j = 0 <;> simp [hi, hj, Nat.add_assoc]
theorem open24 {H : Type} {enc : TypeId × Value → H} {W : World} {sp : Nat → Bool} {held : Bool} {base : Nat} : ∀ (n : Nat) (cs : List Value) (y : DataW H × List MemPlace), DataW.trod enc Tryz.prog W base sp held n 24 cs = some y →
  ∃ (x : S24) (A : Option Addr) (c : Nat), cs = [.int .i64 x.f0, .string x.f1, .int .i64 x.f2, .int .i64 x.f3, .int .i64 x.f4, .int .i64 x.f5, .string x.f6, .slice A x.f7.length c] ∧ x.f7.length ≤ c ∧ Kd.C k24 W A x.f7.length x.f7 := by
 intro n
 induction n using Nat.strongRecOn with
 | _ n ih =>
 intro cs y h
 obtain ⟨xs, m, rfl, _, hlen, hxl, hf⟩ := DataW.trod_struct Tryz.underlying24 h
 rw [cells24] at hlen
 obtain ⟨c0, c1, c2, c3, c4, c5, c6, c7, rfl⟩ := eight hlen
 obtain ⟨y0, y1, y2, y3, y4, y5, y6, y7, rfl⟩ := eight (show xs.length = 8 from hxl)
 have g0 := hf 0 _ rfl
 have g1 := hf 1 _ rfl
 have g2 := hf 2 _ rfl
 have g3 := hf 3 _ rfl
 have g4 := hf 4 _ rfl
 have g5 := hf 5 _ rfl
 have g6 := hf 6 _ rfl
 have g7 := hf 7 _ rfl
 simp only [cells3, cells2, cells9, cells22, List.drop_zero, List.drop_succ_cons, List.take_succ_cons, List.take_zero, List.getElem?_cons_zero, List.getElem?_cons_succ] at g0 g1 g2 g3 g4 g5 g6 g7
 obtain ⟨n0, e0, _, _⟩ := DataW.trod_int Tryz.underlying3 g0
 obtain ⟨s1, e1, _, _⟩ := DataW.trod_string Tryz.underlying9 g1
 obtain ⟨n2, e2, _, _⟩ := DataW.trod_int Tryz.underlying2 g2
 obtain ⟨n3, e3, _, _⟩ := DataW.trod_int Tryz.underlying2 g3
 obtain ⟨n4, e4, _, _⟩ := DataW.trod_int Tryz.underlying3 g4
 obtain ⟨n5, e5, _, _⟩ := DataW.trod_int Tryz.underlying3 g5
 obtain ⟨s6, e6, _, _⟩ := DataW.trod_string Tryz.underlying9 g6
 obtain rfl := (List.cons.inj e0).1
 obtain rfl := (List.cons.inj e1).1
 obtain rfl := (List.cons.inj e2).1
 obtain rfl := (List.cons.inj e3).1
 obtain rfl := (List.cons.inj e4).1
 obtain rfl := (List.cons.inj e5).1
 obtain rfl := (List.cons.inj e6).1
 rcases DataW.trod_slice Tryz.underlying22 g7 with ⟨e7, _⟩ | ⟨a, len, cap, elems, rest, k, rfl, e7, _, _, hle, hmx, hel, hall, _, _⟩
 ·obtain rfl := (List.cons.inj e7).1
  exact ⟨⟨n0, s1, n2, n3, n4, n5, s6, []⟩, none, 0, rfl, Nat.le_refl _, Kd.C_nil k24 W⟩
 ·obtain rfl := (List.cons.inj e7).1
  rw [cells24] at hall
  have each : ∀ i, i < len → ∃ x : S24, ∃ cs, cs.length = 8 ∧ k24.K W x cs ∧ ∀ j u, cs[j]? = some u → W.cell? (a.add (i * 8 + j)) = some u := by
   intro i hi
   have hi' := hall i hi
   rw [List.getElem?_eq_getElem (by omega)] at hi'
   obtain ⟨cs, hcs, ht⟩ := Option.bind_eq_some_iff.1 hi'
   obtain ⟨x, A, c, rfl, hlc, hC⟩ := ih k (by omega) cs _ ht
   obtain ⟨hcl, hcell⟩ := cells_at hcs
   refine ⟨x, _, rfl, k24_mk W x hlc hC, fun j u hu => ?_⟩
   have := hcell j u hu
   rwa [show (a.add (i * 8)).add j = a.add (i * 8 + j) from add_twice a (i * 8) j] at this
  obtain ⟨zs, hzl, hz⟩ : ∃ zs : List S24, zs.length = len ∧ ∀ i p, zs[i]? = some p → ∃ cs, cs.length = 8 ∧ k24.K W p cs ∧ ∀ j u, cs[j]? = some u → W.cell? (a.add (i * 8 + j)) = some u := by
   have key : ∀ m, m ≤ len → ∃ zs : List S24, zs.length = m ∧ ∀ i p, zs[i]? = some p → ∃ cs, cs.length = 8 ∧ k24.K W p cs ∧ ∀ j u, cs[j]? = some u → W.cell? (a.add (i * 8 + j)) = some u := by
    intro m
    induction m with
    | zero => exact fun _ => ⟨[], rfl, fun i p hp => by simp at hp⟩
    | succ m ihm =>
     intro hm
     obtain ⟨zs, hzl, hz⟩ := ihm (by omega)
     obtain ⟨x, cs, h1, h2, h3⟩ := each m (by omega)
     refine ⟨zs ++ [x], by simp [hzl], fun i p hp => ?_⟩
     by_cases hi : i < zs.length
     ·rw [List.getElem?_append_left hi] at hp
      exact hz i p hp
     ·rw [List.getElem?_append_right (by omega)] at hp
      have : i = m := by
       have := (List.getElem?_eq_some_iff.1 hp).1
       simp at this
       omega
      subst this
      rw [hzl, Nat.sub_self] at hp
      simp at hp
      subst hp
      exact ⟨cs, h1, h2, h3⟩
   exact key len (Nat.le_refl _)
  refine ⟨⟨n0, s1, n2, n3, n4, n5, s6, zs⟩, some a, cap, by rw [hzl], by show zs.length ≤ cap; omega, ?_⟩
  show Kd.C k24 W (some a) zs.length zs
  refine ⟨rfl, ?_, fun _ => ⟨a, rfl, ?_⟩⟩
  ·have : maxLen = 9223372036854775807 := rfl
   omega
  ·intro j p hp
   obtain ⟨cs, h1, h2, h3⟩ := hz j p hp
   exact ⟨cs, h1, h2, h3⟩
theorem max_at {W : World} (h : W.ShapedOpen Tryz.prog) : MaxAt W :=
 cell_of_shapedOpen_int (zero := #[.int .i64 0]) h (of_decide_eq_true (by kernel_rfl)) (by kernel_rfl) rfl (by kernel_rfl) (by kernel_rfl) Tryz.underlying3
theorem contract (H : Type) (enc : TypeId × Value → H) (W : World) (base : Nat) (args : Array Value) (ds gs : List (DataW H)) (before : List MemPlace)
  (hval : ∀ (j : Nat) t v, Tryz.f3.params[j]? = some t → args[j]? = some v → Value.okWide Tryz.prog W .any base t v)
  (hW : DataW.Whole enc Tryz.prog Tryz.f3.params.toList Rows.nodeChecksSpec.vars false W args.toList ds gs before) (hsh : W.ShapedOpen Tryz.prog) :
  Calls Tryz.prog 3 args W fun e W' => ∃ v, e = .returned v ∧ Rows.nodeChecksSpec.post enc Tryz.prog Tryz.f3 false true false false W args v W' := by
 have hW' := hW
 obtain ⟨p, q, hA0, hV, rfl, hfz, hnd⟩ := hW
 have hA : DataW.TrodAll enc Tryz.prog W 0 (fun _ => true) true Tryz.f3.params.toList args.toList ds p := hA0
 rw [Tryz.params3] at hA hval
 obtain ⟨v0, vs0, d0, ds0, p0, q0, hargs, rfl, rfl, h0, r0⟩ := trodAll_cons hA
 obtain ⟨rfl, rfl, rfl⟩ := trodAll_nil r0
 obtain rfl : args = #[v0] := by cases args; simp_all
 obtain ⟨rfl, rfl⟩ := trodVars_none hV
 obtain ⟨cs, rfl, hsz⟩ := okWide_struct Tryz.underlying24 (hval 0 24 v0 rfl rfl)
 have k0 := h0
 have lt0 : ∀ x ∈ p0, x.block < W.heap.size := by obtain ⟨m, hm⟩ := k0; exact DataW.trod_lt m _ _ _ hm
 obtain ⟨fuel, hf⟩ := h0
 obtain ⟨x, A, c, hcs, hlc, hC⟩ := open24 fuel _ _ hf
 obtain rfl : cs = #[.int .i64 x.f0, .string x.f1, .int .i64 x.f2, .int .i64 x.f3, .int .i64 x.f4, .int .i64 x.f5, .string x.f6, .slice A x.f7.length c] := by
  cases cs
  simp [Value.cells] at hcs
  simp [hcs]
 clear hA0 hval hf hcs
 obtain ⟨k, hk⟩ := pure_law x
 refine (glossarylaw07_NodeChecks.calls k x.f0 x.f1 x.f2 x.f3 x.f4 x.f5 x.f6 A c x.f7 true W hC hlc (max_at hsh) hk).mono fun e W' ⟨he, bel⟩ => ?_
 subst he
 exact ⟨_, rfl, _, _, _, [], _, [], hW', trodAll_mk1 (shut_bool Tryz.underlying4 _), trodAll_cons_mk (Below.trod laidOut (by kernel_rfl) (of_decide_eq_true (by kernel_rfl)) k0 bel lt0) trodAll_mk0, rfl, bel.frame _, fun h => by cases h⟩
def setTab (l : List Nat) : Obj → Obj
 | .cells _ t frozen => .cells (l.map fun (n : Nat) => Value.int .u8 (n : Int)).toArray t frozen
 | o => o
noncomputable def laidWorld (os : Os) : World :=
 { World.holding Tryz.prog os ⟨#[], #[], []⟩ with heap := ((World.holding Tryz.prog os ⟨#[], #[], []⟩).heap.modify 1 (setTab Go.Pinned.utf8FirstZ)).modify 2 (setTab [128, 191, 160, 191, 128, 159, 144, 191, 128, 143, 0, 0, 0, 0, 0, 0, 0, 0, 0, 0, 0, 0, 0, 0, 0, 0, 0, 0, 0, 0, 0, 0]) }
abbrev arg0 : Value := .agg #[.int .i64 0, .string ⟨#[]⟩, .int .i64 0, .int .i64 0, .int .i64 0, .int .i64 0, .string ⟨#[]⟩, .slice none 0 0]
theorem laid_met (os : Os) : laidMet Tryz.prog Rows.nodeChecksRow.laid ((laidWorld os).forCall (fun _ _ => 0) ⟨#[], #[arg0], []⟩).memory :=
 laidMet_of_run' 8 (by kernel_rfl) (by kernel_rfl)
theorem reads (os : Os) {H : Type} (enc : TypeId × Value → H) : ∃ places, DataW.whole enc Tryz.prog ((laidWorld os).forCall (fun _ _ => 0) ⟨#[], #[arg0], []⟩).memory Tryz.f3.params.toList Rows.nodeChecksSpec.vars false #[arg0].toList 8 = some ([.agg [.lit (.int .i64 0), .lit (.string []), .lit (.int .i64 0), .lit (.int .i64 0), .lit (.int .i64 0), .lit (.int .i64 0), .lit (.string []), .nil]], [], places) :=
 ⟨[], by kernel_rfl⟩
set_option maxRecDepth 100000 in
theorem lifted (os : Os) (started : os.Started) (H : Type) (enc : TypeId × Value → H) (F : Stop.Interp) :
  ReturnsInHanded {} Tryz.checked os 3 .any ((OpenSpec.ofChange Rows.nodeChecksSpec).preRow enc Tryz.prog Tryz.f3 Rows.nodeChecksRow.domain false Rows.nodeChecksRow.laid) (((OpenSpec.ofChange Rows.nodeChecksSpec).at F).post enc Tryz.prog Tryz.f3 false true false false) := by
 obtain ⟨places, hx⟩ := reads os enc
 refine returnsInHanded_of_row (C := Tryz.checked) (s := OpenSpec.ofChange Rows.nodeChecksSpec) own started (by kernel_rfl) Tryz.func3
  (witness_row_at (enc := enc) (C := Tryz.checked) false (laidWorld os) #[arg0] rfl (by kernel_rfl) (by kernel_rfl) (by kernel_rfl)
   (OpenSpec.preRow_of_cond 8 hx (by kernel_rfl) (fun k hk => by cases hk) (by kernel_rfl) (laid_met os))) ?_
 intro W base args ds gs before hval hW _ _ _ _ hsh _
 exact contract H enc W base args ds gs before hval hW hsh
theorem said : Rows.NodeChecksSaid :=
 OpenClaim.holds_of_cond 3 Tryz.f3 rfl rfl rfl rfl rfl rfl rfl ⟨rfl, rfl, rfl, rfl, rfl⟩ rfl rfl rfl rfl rfl (by kernel_rfl) Tryz.func3 (by kernel_rfl)
  (of_decide_eq_true (by kernel_rfl)) (by unfold Func.isWrapper; first | (rw [if_pos (by decide +kernel)]; kernel_rfl) | (rw [if_neg (by decide +kernel)]; exact ⟨rfl, rfl⟩))
  (fun os started H enc _ F => by rw [OpenClaim.pre_eq_preRow]; exact lifted os started H enc F)
theorem plain (f : FuncId) (fn : Func) (hf : Tryz.pinned.checked.prog.funcNamed "glossary/glossarylaw07.NodeChecks" = some f) (hfn : Tryz.pinned.checked.prog.funcs[f]? = some fn) :
  false = Tryz.pinned.checked.prog.looks [] ∧ ∀ (j : Nat) t, fn.params[j]? = some t → Tryz.pinned.checked.prog.wantsStandIn t = false := by
 obtain rfl : f = 3 := Option.some.inj ((show Tryz.prog.funcNamed "glossary/glossarylaw07.NodeChecks" = some 3 by kernel_rfl).symm.trans hf) |>.symm
 obtain rfl : fn = Tryz.f3 := (Option.some.inj (Tryz.func3.symm.trans hfn)).symm
 refine ⟨by kernel_rfl, fun j t ht => ?_⟩
 rw [Tryz.params3] at ht
 obtain rfl : t = 24 := by simpa using Array.mem_of_getElem? ht
 exact (show Tryz.prog.wantsStandIn 24 = false by kernel_rfl)
theorem card : Rows.NodeChecksCardSaid :=
 Claim7.holds_tied_plain_at .later [] _ _ _ _ said (fun _ h => by cases h) (by kernel_rfl) (fun _ h => by cases h) nodeChecks_row_tie rfl ⟨rfl, rfl⟩ (by kernel_rfl) rfl plain (by kernel_rfl)
end Go.Proofs.YtdkepckkihclgaaGreatDoor.nodeChecks
namespace Go.Proofs.YtdkepckkihclgaaGreatDoor
theorem nodeChecks_holds : Rows.NodeChecksCardSaid := nodeChecks.card
end Go.Proofs.YtdkepckkihclgaaGreatDoor

import Derived.Test.YtdkepckkihclgaaGreatDoorM23
import Derived.Laws.EntriesVeiled
namespace Go.Proofs.YtdkepckkihclgaaGreatDoor.PNodeChecks
open Go.RowKit Go.Proofs.YtdkepckkihclgaaGreatDoorW.PrintWords Go.Proofs.YtdkepckkihclgaaGreatDoorW.PrintLast Go.Proofs.YtdkepckkihclgaaGreatDoorW.PrintMore
set_option linter.unusedVariables false
set_option linter.unusedSimpArgs false
theorem callsF {P : Program} {ops : Array Oper} {rest : List Oper} {o : Oper} {a : Act} {W : World} {Q : Exit → Act → World → Prop} {f : FuncId} {fn : Func} {as_ : Array Operand} {ts : Array TypeId} {t : Tmp} {cap : Array Value} {N : Option Tmp}
  (hop : o.op = .call { callee := .value (.tmp t), args := as_, argTypes := ts }) (hN : o.dst = N) (hw : Region.wanted o (yielded ops a.tmps) = true) (hf : P.funcs[f]? = some fn) (hname : (fn.name == "runtime.NumGoroutine") = false) (hb : fn.body.isSome = true) (args : Array Value)
  (hv : a.eval (.tmp t) = .func (.func f) #[] cap) (hargs : as_.map a.eval = args)
  (h : Calls P f (args ++ cap) W fun e w' => ∃ v, e = .returned v ∧ wpList P ops Q rest (a.put N v) w') : wpList P ops Q (o :: rest) a W := by
 have := goesV_ (K := wpList P ops Q rest) (Q := Q) hf hname hb args hw hN hop hv hargs rfl h
 rw [if_pos hw] at this
 show if _ then _ ∨ _ else _
 rw [if_pos hw]
 exact Or.inl this
def n1B (kd : Int) : Bool := (kd == 9) || ((kd == 10) || ((kd == 16) || (kd == 14)))
def n2B (kd : Int) : Bool := kd == 14
set_option maxHeartbeats 16000000 in
set_option maxRecDepth 100000 in
theorem numbered_calls (kd : Int) (w : World) : Calls Tryz.prog 18 #[.int .i64 kd] w fun e w' => e = .returned (.tuple #[.bool (n1B kd), .bool (n2B kd)]) ∧ w' = w := by
 by_cases h0 : kd = 9
 ·subst h0
  go_enter Tryz.func18, Tryz.ntmps18
  go_wp2
  go_ret2
  exact ⟨rfl, rfl⟩
 ·have b0 : (kd == 9) = false := beq_eq_false_iff_ne.mpr h0
  have d0 : decide (kd = 9) = false := decide_eq_false h0
  by_cases h1 : kd = 10
  ·subst h1
   go_enter Tryz.func18, Tryz.ntmps18
   go_wp2
   go_ret2
   exact ⟨rfl, rfl⟩
  ·have b1 : (kd == 10) = false := beq_eq_false_iff_ne.mpr h1
   have d1 : decide (kd = 10) = false := decide_eq_false h1
   by_cases h2 : kd = 16
   ·subst h2
    go_enter Tryz.func18, Tryz.ntmps18
    go_wp2
    go_ret2
    exact ⟨rfl, rfl⟩
   ·have b2 : (kd == 16) = false := beq_eq_false_iff_ne.mpr h2
    have d2 : decide (kd = 16) = false := decide_eq_false h2
    by_cases h3 : kd = 14
    ·subst h3
     go_enter Tryz.func18, Tryz.ntmps18
     go_wp2
     go_ret2
     exact ⟨rfl, rfl⟩
    ·have b3 : (kd == 14) = false := beq_eq_false_iff_ne.mpr h3
     have d3 : decide (kd = 14) = false := decide_eq_false h3
     have HF := Aside0.mk (show n1B kd = false by unfold n1B; rw [b0, b1, b2, b3]; rfl)
     have HG := Aside0.mk (show n2B kd = false from b3)
     clear h0 h1 h2 h3
     go_enter Tryz.func18, Tryz.ntmps18
     go_wp2
     go_ret2
     exact ⟨by rw [HF.out, HG.out]; rfl, rfl⟩
def headB (x : S24) : Bool :=
 decide (1 ≤ x.f0) && (decide (x.f0 ≤ 24) && (!(decide (x.f5 < 0)) && (!(decide (x.f4 < 0)) && !(decide (mkB x.f0 < x.f4)))))
def docB (x : S24) : Bool := (x.f6.toList == ([] : List UInt8)) || (dcB x.f0 && ((bt x.f6 ((x.f6.size : Int) - 1) == 10) && !(decide (10000 < x.f6.size))))
def numB (x : S24) : Bool := ((x.f2 == 0) || n1B x.f0) && ((x.f3 == 0) || n2B x.f0)
mutual
def rightF : Nat → S24 → Option Bool
 | 0, _ => none
 | k + 1, x => if x.f1.size < 4294967281 ∧ x.f6.size < 4294967281 then (if headB x = true then (if docB x = true then (if numB x = true then ((textB k x.f0 x).bind fun t => if t = true then ((numsB k x.f0 x).bind fun n => if n = true then ((kidsB k x.f0 x.f7).bind fun q => if q = true then rightL k x.f7 0 else some false) else some false) else some false) else some false) else some false) else some false) else none
def rightL : Nat → List S24 → Int → Option Bool
 | 0, _, _ => none
 | k + 1, l, i => if i < (l.length : Int) then (if 0 ≤ i then ((rightF k (rd_T24 l i)).bind fun b => if b = true then rightL k l (wrap64 (i + 1)) else some false) else none) else some true
end
set_option maxHeartbeats 16000000 in
set_option maxRecDepth 100000 in
theorem right_calls (k : Nat) : ∀ (x : S24) (A : Option Addr) (c : Nat) (r : Bool) (w : World), Kd.C k24 w A x.f7.length x.f7 → x.f7.length ≤ c → MaxAt w → rightF k x = some r →
  Calls Tryz.prog 11 #[.agg #[.int .i64 x.f0, .string x.f1, .int .i64 x.f2, .int .i64 x.f3, .int .i64 x.f4, .int .i64 x.f5, .string x.f6, .slice A x.f7.length c]] w fun e w' => e = .returned (.bool r) ∧ Below w.heap.size w w' := by
 induction k using Nat.strongRecOn with
 | _ k ih =>
 intro x A c r w hC hc hm h
 cases k with
 | zero => exact absurd h (by simp [rightF])
 | succ k =>
 simp only [rightF] at h
 by_cases hsz : x.f1.size < 4294967281 ∧ x.f6.size < 4294967281
 ·rw [if_pos hsz] at h
  have HC := Aside0.mk hC
  have Hc := Aside0.mk hc
  have HM := Aside0.mk hm
  have H := Aside0.mk h
  have HSZ := Aside0.mk hsz.1
  have HZ6 := Aside0.mk (show (x.f6.size : Int) ≤ 9223372036854775807 by have := hsz.2; omega)
  clear hC hc hm h hsz
  go_enter Tryz.func11, Tryz.ntmps11
  go_wp2_with (first | ((with_reducible refine gate_dst (N := 1) rfl ?_); refine box_event ?hg (N := 1) ?hd (cs := #[.int .i64 x.f0, .string x.f1, .int .i64 x.f2, .int .i64 x.f3, .int .i64 x.f4, .int .i64 x.f5, .string x.f6, .slice A x.f7.length c]) (t := 24) ?hr ?_; (case hd => rfl); (case hg => rfl); (case hr => first | (go_simp; done) | (go_simp; rfl)); intro gx hg w1 hbox hb; have HB1 := Aside0.mk hb; have HX1 := Aside0.mk hbox; obtain ⟨hq0, hqf0, hq1, hqf1, hq2, hqf2, hq3, hqf3, hq4, hqf4, hq5, hqf5, hq6, hqf6, hq7, hqf7⟩ := cells8 hbox; clear hbox hb hg))
  by_cases hk : 1 ≤ x.f0 ∧ x.f0 ≤ 24
  ·refine (shaped_calls x.f0 w1 hk.1 hk.2).mono ?_
   rintro e w2 ⟨T, Nf, K, rfl, hs, hb2⟩
   have HH := Aside0.mk hk
   obtain ⟨mk, hmk⟩ : ∃ mk, mkB x.f0 = mk := ⟨_, rfl⟩
   obtain ⟨dc, hdc⟩ : ∃ dc, dcB x.f0 = dc := ⟨_, rfl⟩
   rw [hmk, hdc]
   have HMK := Aside0.mk hmk
   have HDC := Aside0.mk hdc
   have HSa := hs
   obtain ⟨ft, fnt, hT, ht2⟩ := hs.t
   obtain ⟨fn, fnn, hN, hn2⟩ := hs.n
   obtain ⟨fk, fnk, ck, Sk, hK, hk2⟩ := hs.k
   subst hT hN hK
   have HT := Aside0.mk ht2
   have HN := Aside0.mk hn2
   have HB2 := Aside0.mk (below_step HB1.out hb2)
   have HX2 := Aside0.mk (blk_below HX1.out hb2)
   have HS2 := Aside0.mk HSa
   clear hs ht2 hn2 hk2 hb2 hmk hdc hk HSa HB1 HX1
   clear hq0 hqf0 hq1 hqf1 hq2 hqf2 hq3 hqf3 hq4 hqf4 hq5 hqf5 hq6 hqf6 hq7 hqf7
   obtain ⟨hq0, hqf0, hq1, hqf1, hq2, hqf2, hq3, hqf3, hq4, hqf4, hq5, hqf5, hq6, hqf6, hq7, hqf7⟩ := cells8 HX2.out
   go_upto_region 2 with (first | ((with_reducible refine gate_dst (N := 3) rfl ?_); refine box_event ?hg (N := 3) ?hd (cs := #[.nilFunc, .nilFunc, .nilFunc, .int .i64 0, .bool false]) (t := 33) ?hr ?_; (case hd => rfl); (case hg => rfl); (case hr => first | (go_simp; done) | (go_simp; rfl)); intro g3 hg w3 hbox hb; have HB3 := Aside0.mk (below_step HB2.out hb); have HX3 := Aside0.mk (blk_below HX2.out hb); have H33 := Aside0.mk hbox; have HG3 := Aside0.mk (show w.heap.size ≤ g3 by rw [hg]; exact HB2.out.size); have HS3 := Aside0.mk (HS2.out.below hb); have hne : gx ≠ g3 := blk_ne HX3.out hbox (by decide); obtain ⟨hz0, hzf0, hz1, hzf1, hz2, hzf2, hz3, hzf3, hz4, hzf4⟩ := cells5 hbox; clear hbox hb hg))
   obtain ⟨wq, hwq⟩ : ∃ wq, (((((w3.setCell ⟨g3, 0, none⟩ (.func (.func ft) #[] #[])).setCell ⟨g3, 1, none⟩ (.func (.func fn) #[] #[])).setCell ⟨g3, 2, none⟩ (.func (.func fk) #[] ck)).setCell ⟨g3, 3, none⟩ (.int .i64 mk)).setCell ⟨g3, 4, none⟩ (.bool dc)) = wq := ⟨_, rfl⟩
   have HBq : Aside0 (Below w.heap.size w wq) := ⟨hwq ▸ (below_set (below_set (below_set (below_set (below_set HB3.out HG3.out (j := 0)) HG3.out (j := 1)) HG3.out (j := 2)) HG3.out (j := 3)) HG3.out (j := 4))⟩
   have HXq : Aside0 (wq.heap[gx]? = some (.cells #[.int .i64 x.f0, .string x.f1, .int .i64 x.f2, .int .i64 x.f3, .int .i64 x.f4, .int .i64 x.f5, .string x.f6, .slice A x.f7.length c] 24 (0, 0))) := ⟨hwq ▸ (blk_far (blk_far (blk_far (blk_far (blk_far HX3.out hne _) hne _) hne _) hne _) hne _)⟩
   have H3q : Aside0 (wq.heap[g3]? = some (.cells #[.func (.func ft) #[] #[], .func (.func fn) #[] #[], .func (.func fk) #[] ck, .int .i64 mk, .bool dc] 33 (0, 0))) := ⟨hwq ▸ (blk_put (blk_put (blk_put (blk_put (blk_put H33.out 0 _ rfl) 1 _ rfl) 2 _ rfl) 3 _ rfl) 4 _ rfl)⟩
   have HSq : Aside0 (Shp wq x.f0 (.func (.func ft) #[] #[]) (.func (.func fn) #[] #[]) (.func (.func fk) #[] ck)) := ⟨hwq ▸ (((((HS3.out.far H33.out 0 (.func (.func ft) #[] #[])).far (blk_put H33.out 0 _ rfl) 1 (.func (.func fn) #[] #[])).far (blk_put (blk_put H33.out 0 _ rfl) 1 _ rfl) 2 (.func (.func fk) #[] ck)).far (blk_put (blk_put (blk_put H33.out 0 _ rfl) 1 _ rfl) 2 _ rfl) 3 (.int .i64 mk)).far (blk_put (blk_put (blk_put (blk_put H33.out 0 _ rfl) 1 _ rfl) 2 _ rfl) 3 _ rfl) 4 (.bool dc))⟩
   rw [hwq]
   clear hwq HB3 HX3 H33 HS3 HB2 HX2 HS2 HG3
   clear hz0 hzf0 hz1 hzf1 hz2 hzf2 hz3 hzf3 hz4 hzf4
   clear hq0 hqf0 hq1 hqf1 hq2 hqf2 hq3 hqf3 hq4 hqf4 hq5 hqf5 hq6 hqf6 hq7 hqf7
   obtain ⟨hq0, hqf0, hq1, hqf1, hq2, hqf2, hq3, hqf3, hq4, hqf4, hq5, hqf5, hq6, hqf6, hq7, hqf7⟩ := cells8 HXq.out
   obtain ⟨hs0, hsf0, hs1, hsf1, hs2, hsf2, hs3, hsf3, hs4, hsf4⟩ := cells5 H3q.out
   by_cases c5 : x.f5 < 0
   ·have c5b : decide (x.f5 < 0) = true := decide_eq_true c5
    have hF : headB x = false := by simp [headB, c5]
    have H1 := H.out
    rw [if_neg (by rw [hF]; decide)] at H1
    obtain rfl := Option.some.inj H1
    clear c5 H1 hF
    go_wp2
    go_ret
    exact ⟨rfl, HBq.out⟩
   have c5b : decide (x.f5 < 0) = false := decide_eq_false c5
   by_cases c4 : x.f4 < 0
   ·have c4b : decide (x.f4 < 0) = true := decide_eq_true c4
    have hF : headB x = false := by simp [headB, c4]
    have H1 := H.out
    rw [if_neg (by rw [hF]; decide)] at H1
    obtain rfl := Option.some.inj H1
    clear c5 c4 H1 hF
    go_wp2
    go_ret
    exact ⟨rfl, HBq.out⟩
   have c4b : decide (x.f4 < 0) = false := decide_eq_false c4
   by_cases cm : mk < x.f4
   ·have cmb : decide (mk < x.f4) = true := decide_eq_true cm
    have cmg : decide (x.f4 > mk) = true := decide_eq_true cm
    have hF : headB x = false := by simp [headB, HMK.out, cm]
    have H1 := H.out
    rw [if_neg (by rw [hF]; decide)] at H1
    obtain rfl := Option.some.inj H1
    clear c5 c4 cm H1 hF
    go_wp2
    go_ret
    exact ⟨rfl, HBq.out⟩
   have cmb : decide (mk < x.f4) = false := decide_eq_false cm
   have cmg : decide (x.f4 > mk) = false := decide_eq_false cm
   have hF : headB x = true := by simp [headB, HMK.out, cm, c4, c5, HH.out.1, HH.out.2]
   have H1 := H.out
   rw [if_pos hF] at H1
   have H := Aside0.mk H1
   clear c5 c4 cm H1 hF
   go_upto_region 4 with (fail)
   go_cut [57] (fun v57 wc => v57 = .bool (!(docB x)) ∧ Aside0 (wc = wq))
   case first =>
    by_cases d0 : x.f6.toList = ([] : List UInt8)
    ·have e0 : (x.f6.toList == ([] : List UInt8)) = true := beq_iff_eq.mpr d0
     have e1 : (x.f6.toList != ([] : List UInt8)) = false := bne_eq_false_iff_eq.mpr d0
     have hF : docB x = true := by unfold docB; rw [e0]; rfl
     have HF := Aside0.mk hF
     clear d0 hF
     go_wp2
     go_meet
     case rel => exact ⟨by rw [HF.out]; rfl, ⟨rfl⟩⟩
    ·have e0 : (x.f6.toList == ([] : List UInt8)) = false := beq_eq_false_iff_ne.mpr d0
     have e1 : (x.f6.toList != ([] : List UInt8)) = true := bne_iff_ne.mpr d0
     have hpos : 0 < x.f6.size := by
      rcases Nat.eq_zero_or_pos x.f6.size with hz | hz
      ·exact absurd (List.eq_nil_of_length_eq_zero (by rw [ByteArray.toList_eq, Array.length_toList]; exact hz)) d0
      ·exact hz
     clear d0
     cases dc with
     | false =>
      have hF : docB x = false := by unfold docB; rw [e0, HDC.out]; rfl
      have HF := Aside0.mk hF
      clear hF
      go_wp2
      go_meet
      case rel => exact ⟨by rw [HF.out]; rfl, ⟨rfl⟩⟩
     | true =>
      obtain ⟨la, hla⟩ : ∃ la, (x.f6.size : Int) - 1 = la := ⟨_, rfl⟩
      have HL : Aside0 ((x.f6.size : Int) - 1 = la) := ⟨hla⟩
      have hbd : (x.f6.size : Int) ≤ 9223372036854775807 := HZ6.out
      have hwr : wrap64 ((x.f6.size : Int) - 1) = la := by rw [hla]; unfold wrap64; omega
      have p5 : 0 ≤ la := by omega
      have q5 : la.toNat < x.f6.size := by omega
      have hx5 : ∀ h : la.toNat < x.f6.size, ((x.f6[la.toNat]'h).toNat : Int) = bt x.f6 la := bt_at x.f6 la
      have qi5 : (la < (x.f6.size : Int)) = True := eq_true (by omega)
      replace q5 := eq_true q5
      replace p5 := eq_true p5
      clear hpos
      cases hb : (bt x.f6 la == 10)
      ·have hF : docB x = false := by unfold docB; rw [e0, HDC.out, HL.out, hb]; rfl
       have hb1 : (bt x.f6 la != 10) = true := by rw [bne, hb]; rfl
       have HF := Aside0.mk hF
       clear hF
       go_wp2
       go_meet
       case rel => exact ⟨by rw [HF.out]; rfl, ⟨rfl⟩⟩
      ·have hb1 : (bt x.f6 la != 10) = false := by rw [bne, hb]; rfl
       by_cases hz : (10000 : Int) < (x.f6.size : Int)
       ·have g1 : decide ((10000 : Int) < (x.f6.size : Int)) = true := decide_eq_true hz
        have hF : docB x = false := by unfold docB; rw [e0, HDC.out, HL.out, hb, decide_eq_true (show 10000 < x.f6.size by omega)]; rfl
        have HF := Aside0.mk hF
        clear hF hz
        go_wp2
        go_meet
        case rel => exact ⟨by rw [HF.out]; rfl, ⟨rfl⟩⟩
       ·have g1 : decide ((10000 : Int) < (x.f6.size : Int)) = false := decide_eq_false hz
        have hF : docB x = true := by unfold docB; rw [e0, HDC.out, HL.out, hb, decide_eq_false (show ¬ 10000 < x.f6.size by omega)]; rfl
        have HF := Aside0.mk hF
        clear hF hz
        go_wp2
        go_meet
        case rel => exact ⟨by rw [HF.out]; rfl, ⟨rfl⟩⟩
   case rest =>
    obtain ⟨rfl, HW⟩ := hcut
    rw [HW.out]
    clear HW
    cases hd : docB x with
    | false =>
     have H1 := H.out
     rw [if_neg (by rw [hd]; decide)] at H1
     obtain rfl := Option.some.inj H1
     clear H1 hd
     go_wp2
     go_ret
     exact ⟨rfl, HBq.out⟩
    | true =>
     have H1 := H.out
     rw [if_pos hd] at H1
     have H := Aside0.mk H1
     clear H1 hd
     go_wp2_with (fail)
     refine (numbered_calls x.f0 _).mono ?_
     rintro e w5 ⟨rfl, e5⟩
     replace e5 := e5.symm
     subst e5
     obtain ⟨n1, hn1⟩ : ∃ n1, n1B x.f0 = n1 := ⟨_, rfl⟩
     obtain ⟨n2, hn2⟩ : ∃ n2, n2B x.f0 = n2 := ⟨_, rfl⟩
     rw [hn1, hn2]
     have HN1 := Aside0.mk hn1
     have HN2 := Aside0.mk hn2
     clear hn1 hn2
     go_upto_region 7 with (fail)
     go_cut [79] (fun v79 wc => v79 = .bool (!(numB x)) ∧ Aside0 (wc = wq))
     case first =>
      cases h2 : (x.f2 == 0)
      ·have j2 : (x.f2 != 0) = true := by rw [bne, h2]; rfl
       cases n1
       ·have HF := Aside0.mk (show numB x = false by unfold numB; rw [h2, HN1.out]; rfl)
        go_wp2
        go_meet
        case rel => exact ⟨by rw [HF.out]; rfl, ⟨rfl⟩⟩
       ·cases h3 : (x.f3 == 0)
        ·have j3 : (x.f3 != 0) = true := by rw [bne, h3]; rfl
         have HF := Aside0.mk (show numB x = n2 by unfold numB; rw [h2, HN1.out, h3, HN2.out]; cases n2 <;> rfl)
         go_wp2
         go_meet
         case rel => exact ⟨by rw [HF.out], ⟨rfl⟩⟩
        ·have j3 : (x.f3 != 0) = false := by rw [bne, h3]; rfl
         have HF := Aside0.mk (show numB x = true by unfold numB; rw [h2, HN1.out, h3]; rfl)
         go_wp2
         go_meet
         case rel => exact ⟨by rw [HF.out]; rfl, ⟨rfl⟩⟩
      ·have j2 : (x.f2 != 0) = false := by rw [bne, h2]; rfl
       cases h3 : (x.f3 == 0)
       ·have j3 : (x.f3 != 0) = true := by rw [bne, h3]; rfl
        have HF := Aside0.mk (show numB x = n2 by unfold numB; rw [h2, h3, HN2.out]; cases n2 <;> rfl)
        go_wp2
        go_meet
        case rel => exact ⟨by rw [HF.out], ⟨rfl⟩⟩
       ·have j3 : (x.f3 != 0) = false := by rw [bne, h3]; rfl
        have HF := Aside0.mk (show numB x = true by unfold numB; rw [h2, h3]; rfl)
        go_wp2
        go_meet
        case rel => exact ⟨by rw [HF.out]; rfl, ⟨rfl⟩⟩
     case rest =>
      obtain ⟨rfl, HW⟩ := hcut
      rw [HW.out]
      clear HW
      cases hd : numB x with
      | false =>
       have H1 := H.out
       rw [if_neg (by rw [hd]; decide)] at H1
       obtain rfl := Option.some.inj H1
       clear H1 hd
       go_wp2
       go_ret
       exact ⟨rfl, HBq.out⟩
      | true =>
       have H1 := H.out
       rw [if_pos hd] at H1
       have H := Aside0.mk H1
       clear H1 hd
       go_upto_region 9 with (fail)
       go_cut [99] (fun v99 wc => ∃ b : Bool, v99 = .bool (!b) ∧ Aside0 ((if b = true then rightL k x.f7 0 else some false) = some r) ∧ Aside0 (Below wq.heap.size wq wc))
       case first =>
        obtain ⟨t, ht, H1⟩ := Option.bind_eq_some_iff.mp H.out
        cases t with
        | false =>
         have H2 := Aside0.mk H1
         clear H1
         go_wp2_with ((with_reducible refine gate_dst (N := 83) rfl ?_); refine callsF (t := 81) rfl rfl rfl HT.out.1 HT.out.2.1 HT.out.2.2.1 #[.agg #[.int .i64 x.f0, .string x.f1, .int .i64 x.f2, .int .i64 x.f3, .int .i64 x.f4, .int .i64 x.f5, .string x.f6, .slice A x.f7.length c]] rfl (by simp only [List.map_toArray, List.map_cons, List.map_nil]; rfl) ?_; refine (HT.out.2.2.2 k x _ c _ _ (HM.out.below HBq.out) HSZ.out ht).mono ?_; rintro e w6 ⟨rfl, hb⟩; refine ⟨_, rfl, ?_⟩; have HB6 := Aside0.mk hb; clear hq0 hqf0; have hq0 : w6.cell? ⟨gx, 0, none⟩ = some (.int .i64 x.f0) := (blk_cell (blk_below HXq.out HB6.out) 0).trans rfl; have hqf0 := blk_frozen (blk_below HXq.out HB6.out) 0; clear hq1 hqf1; have hq1 : w6.cell? ⟨gx, 1, none⟩ = some (.string x.f1) := (blk_cell (blk_below HXq.out HB6.out) 1).trans rfl; have hqf1 := blk_frozen (blk_below HXq.out HB6.out) 1; clear hq2 hqf2; have hq2 : w6.cell? ⟨gx, 2, none⟩ = some (.int .i64 x.f2) := (blk_cell (blk_below HXq.out HB6.out) 2).trans rfl; have hqf2 := blk_frozen (blk_below HXq.out HB6.out) 2; clear hq3 hqf3; have hq3 : w6.cell? ⟨gx, 3, none⟩ = some (.int .i64 x.f3) := (blk_cell (blk_below HXq.out HB6.out) 3).trans rfl; have hqf3 := blk_frozen (blk_below HXq.out HB6.out) 3; clear hq4 hqf4; have hq4 : w6.cell? ⟨gx, 4, none⟩ = some (.int .i64 x.f4) := (blk_cell (blk_below HXq.out HB6.out) 4).trans rfl; have hqf4 := blk_frozen (blk_below HXq.out HB6.out) 4; clear hq5 hqf5; have hq5 : w6.cell? ⟨gx, 5, none⟩ = some (.int .i64 x.f5) := (blk_cell (blk_below HXq.out HB6.out) 5).trans rfl; have hqf5 := blk_frozen (blk_below HXq.out HB6.out) 5; clear hq6 hqf6; have hq6 : w6.cell? ⟨gx, 6, none⟩ = some (.string x.f6) := (blk_cell (blk_below HXq.out HB6.out) 6).trans rfl; have hqf6 := blk_frozen (blk_below HXq.out HB6.out) 6; clear hq7 hqf7; have hq7 : w6.cell? ⟨gx, 7, none⟩ = some (.slice A x.f7.length c) := (blk_cell (blk_below HXq.out HB6.out) 7).trans rfl; have hqf7 := blk_frozen (blk_below HXq.out HB6.out) 7; clear hs0 hsf0; have hs0 : w6.cell? ⟨g3, 0, none⟩ = some (.func (.func ft) #[] #[]) := (blk_cell (blk_below H3q.out HB6.out) 0).trans rfl; have hsf0 := blk_frozen (blk_below H3q.out HB6.out) 0; clear hs1 hsf1; have hs1 : w6.cell? ⟨g3, 1, none⟩ = some (.func (.func fn) #[] #[]) := (blk_cell (blk_below H3q.out HB6.out) 1).trans rfl; have hsf1 := blk_frozen (blk_below H3q.out HB6.out) 1; clear hs2 hsf2; have hs2 : w6.cell? ⟨g3, 2, none⟩ = some (.func (.func fk) #[] ck) := (blk_cell (blk_below H3q.out HB6.out) 2).trans rfl; have hsf2 := blk_frozen (blk_below H3q.out HB6.out) 2; clear hs3 hsf3; have hs3 : w6.cell? ⟨g3, 3, none⟩ = some (.int .i64 mk) := (blk_cell (blk_below H3q.out HB6.out) 3).trans rfl; have hsf3 := blk_frozen (blk_below H3q.out HB6.out) 3; clear hs4 hsf4; have hs4 : w6.cell? ⟨g3, 4, none⟩ = some (.bool dc) := (blk_cell (blk_below H3q.out HB6.out) 4).trans rfl; have hsf4 := blk_frozen (blk_below H3q.out HB6.out) 4; clear hb)
         go_meet
         case rel => exact ⟨false, rfl, ⟨H2.out⟩, HB6⟩
        | true =>
         rw [if_pos rfl] at H1
         obtain ⟨t2, hn, H1⟩ := Option.bind_eq_some_iff.mp H1
         cases t2 with
         | false =>
          have H2 := Aside0.mk H1
          clear H1
          go_wp2_with (first | ((with_reducible refine gate_dst (N := 83) rfl ?_); refine callsF (t := 81) rfl rfl rfl HT.out.1 HT.out.2.1 HT.out.2.2.1 #[.agg #[.int .i64 x.f0, .string x.f1, .int .i64 x.f2, .int .i64 x.f3, .int .i64 x.f4, .int .i64 x.f5, .string x.f6, .slice A x.f7.length c]] rfl (by simp only [List.map_toArray, List.map_cons, List.map_nil]; rfl) ?_; refine (HT.out.2.2.2 k x _ c _ _ (HM.out.below HBq.out) HSZ.out ht).mono ?_; rintro e w6 ⟨rfl, hb⟩; refine ⟨_, rfl, ?_⟩; have HB6 := Aside0.mk hb; clear hq0 hqf0; have hq0 : w6.cell? ⟨gx, 0, none⟩ = some (.int .i64 x.f0) := (blk_cell (blk_below HXq.out HB6.out) 0).trans rfl; have hqf0 := blk_frozen (blk_below HXq.out HB6.out) 0; clear hq1 hqf1; have hq1 : w6.cell? ⟨gx, 1, none⟩ = some (.string x.f1) := (blk_cell (blk_below HXq.out HB6.out) 1).trans rfl; have hqf1 := blk_frozen (blk_below HXq.out HB6.out) 1; clear hq2 hqf2; have hq2 : w6.cell? ⟨gx, 2, none⟩ = some (.int .i64 x.f2) := (blk_cell (blk_below HXq.out HB6.out) 2).trans rfl; have hqf2 := blk_frozen (blk_below HXq.out HB6.out) 2; clear hq3 hqf3; have hq3 : w6.cell? ⟨gx, 3, none⟩ = some (.int .i64 x.f3) := (blk_cell (blk_below HXq.out HB6.out) 3).trans rfl; have hqf3 := blk_frozen (blk_below HXq.out HB6.out) 3; clear hq4 hqf4; have hq4 : w6.cell? ⟨gx, 4, none⟩ = some (.int .i64 x.f4) := (blk_cell (blk_below HXq.out HB6.out) 4).trans rfl; have hqf4 := blk_frozen (blk_below HXq.out HB6.out) 4; clear hq5 hqf5; have hq5 : w6.cell? ⟨gx, 5, none⟩ = some (.int .i64 x.f5) := (blk_cell (blk_below HXq.out HB6.out) 5).trans rfl; have hqf5 := blk_frozen (blk_below HXq.out HB6.out) 5; clear hq6 hqf6; have hq6 : w6.cell? ⟨gx, 6, none⟩ = some (.string x.f6) := (blk_cell (blk_below HXq.out HB6.out) 6).trans rfl; have hqf6 := blk_frozen (blk_below HXq.out HB6.out) 6; clear hq7 hqf7; have hq7 : w6.cell? ⟨gx, 7, none⟩ = some (.slice A x.f7.length c) := (blk_cell (blk_below HXq.out HB6.out) 7).trans rfl; have hqf7 := blk_frozen (blk_below HXq.out HB6.out) 7; clear hs0 hsf0; have hs0 : w6.cell? ⟨g3, 0, none⟩ = some (.func (.func ft) #[] #[]) := (blk_cell (blk_below H3q.out HB6.out) 0).trans rfl; have hsf0 := blk_frozen (blk_below H3q.out HB6.out) 0; clear hs1 hsf1; have hs1 : w6.cell? ⟨g3, 1, none⟩ = some (.func (.func fn) #[] #[]) := (blk_cell (blk_below H3q.out HB6.out) 1).trans rfl; have hsf1 := blk_frozen (blk_below H3q.out HB6.out) 1; clear hs2 hsf2; have hs2 : w6.cell? ⟨g3, 2, none⟩ = some (.func (.func fk) #[] ck) := (blk_cell (blk_below H3q.out HB6.out) 2).trans rfl; have hsf2 := blk_frozen (blk_below H3q.out HB6.out) 2; clear hs3 hsf3; have hs3 : w6.cell? ⟨g3, 3, none⟩ = some (.int .i64 mk) := (blk_cell (blk_below H3q.out HB6.out) 3).trans rfl; have hsf3 := blk_frozen (blk_below H3q.out HB6.out) 3; clear hs4 hsf4; have hs4 : w6.cell? ⟨g3, 4, none⟩ = some (.bool dc) := (blk_cell (blk_below H3q.out HB6.out) 4).trans rfl; have hsf4 := blk_frozen (blk_below H3q.out HB6.out) 4; clear hb) | ((with_reducible refine gate_dst (N := 89) rfl ?_); refine callsF (t := 87) rfl rfl rfl HN.out.1 HN.out.2.1 HN.out.2.2.1 #[.agg #[.int .i64 x.f0, .string x.f1, .int .i64 x.f2, .int .i64 x.f3, .int .i64 x.f4, .int .i64 x.f5, .string x.f6, .slice A x.f7.length c]] rfl (by simp only [List.map_toArray, List.map_cons, List.map_nil]; rfl) ?_; refine (HN.out.2.2.2 k x _ c _ _ (HM.out.below (below_step HBq.out HB6.out)) HSZ.out hn).mono ?_; rintro e w7 ⟨rfl, hb⟩; refine ⟨_, rfl, ?_⟩; have HB7 := Aside0.mk (below_step HB6.out hb); clear hq0 hqf0; have hq0 : w7.cell? ⟨gx, 0, none⟩ = some (.int .i64 x.f0) := (blk_cell (blk_below HXq.out HB7.out) 0).trans rfl; have hqf0 := blk_frozen (blk_below HXq.out HB7.out) 0; clear hq1 hqf1; have hq1 : w7.cell? ⟨gx, 1, none⟩ = some (.string x.f1) := (blk_cell (blk_below HXq.out HB7.out) 1).trans rfl; have hqf1 := blk_frozen (blk_below HXq.out HB7.out) 1; clear hq2 hqf2; have hq2 : w7.cell? ⟨gx, 2, none⟩ = some (.int .i64 x.f2) := (blk_cell (blk_below HXq.out HB7.out) 2).trans rfl; have hqf2 := blk_frozen (blk_below HXq.out HB7.out) 2; clear hq3 hqf3; have hq3 : w7.cell? ⟨gx, 3, none⟩ = some (.int .i64 x.f3) := (blk_cell (blk_below HXq.out HB7.out) 3).trans rfl; have hqf3 := blk_frozen (blk_below HXq.out HB7.out) 3; clear hq4 hqf4; have hq4 : w7.cell? ⟨gx, 4, none⟩ = some (.int .i64 x.f4) := (blk_cell (blk_below HXq.out HB7.out) 4).trans rfl; have hqf4 := blk_frozen (blk_below HXq.out HB7.out) 4; clear hq5 hqf5; have hq5 : w7.cell? ⟨gx, 5, none⟩ = some (.int .i64 x.f5) := (blk_cell (blk_below HXq.out HB7.out) 5).trans rfl; have hqf5 := blk_frozen (blk_below HXq.out HB7.out) 5; clear hq6 hqf6; have hq6 : w7.cell? ⟨gx, 6, none⟩ = some (.string x.f6) := (blk_cell (blk_below HXq.out HB7.out) 6).trans rfl; have hqf6 := blk_frozen (blk_below HXq.out HB7.out) 6; clear hq7 hqf7; have hq7 : w7.cell? ⟨gx, 7, none⟩ = some (.slice A x.f7.length c) := (blk_cell (blk_below HXq.out HB7.out) 7).trans rfl; have hqf7 := blk_frozen (blk_below HXq.out HB7.out) 7; clear hs0 hsf0; have hs0 : w7.cell? ⟨g3, 0, none⟩ = some (.func (.func ft) #[] #[]) := (blk_cell (blk_below H3q.out HB7.out) 0).trans rfl; have hsf0 := blk_frozen (blk_below H3q.out HB7.out) 0; clear hs1 hsf1; have hs1 : w7.cell? ⟨g3, 1, none⟩ = some (.func (.func fn) #[] #[]) := (blk_cell (blk_below H3q.out HB7.out) 1).trans rfl; have hsf1 := blk_frozen (blk_below H3q.out HB7.out) 1; clear hs2 hsf2; have hs2 : w7.cell? ⟨g3, 2, none⟩ = some (.func (.func fk) #[] ck) := (blk_cell (blk_below H3q.out HB7.out) 2).trans rfl; have hsf2 := blk_frozen (blk_below H3q.out HB7.out) 2; clear hs3 hsf3; have hs3 : w7.cell? ⟨g3, 3, none⟩ = some (.int .i64 mk) := (blk_cell (blk_below H3q.out HB7.out) 3).trans rfl; have hsf3 := blk_frozen (blk_below H3q.out HB7.out) 3; clear hs4 hsf4; have hs4 : w7.cell? ⟨g3, 4, none⟩ = some (.bool dc) := (blk_cell (blk_below H3q.out HB7.out) 4).trans rfl; have hsf4 := blk_frozen (blk_below H3q.out HB7.out) 4; clear hb))
          go_meet
          case rel => exact ⟨false, rfl, ⟨H2.out⟩, HB7⟩
         | true =>
          rw [if_pos rfl] at H1
          obtain ⟨t3, hq, H1⟩ := Option.bind_eq_some_iff.mp H1
          have H2 := Aside0.mk H1
          clear H1
          obtain ⟨fk', fnk, cap, Sk, hv, HKK⟩ := HSq.out.k
          injection hv with hv1 hv2 hv3
          injection hv1 with hv1
          subst hv1
          subst hv3
          clear hv2
          have HK := Aside0.mk HKK
          clear HKK
          go_wp2_with (first | ((with_reducible refine gate_dst (N := 83) rfl ?_); refine callsF (t := 81) rfl rfl rfl HT.out.1 HT.out.2.1 HT.out.2.2.1 #[.agg #[.int .i64 x.f0, .string x.f1, .int .i64 x.f2, .int .i64 x.f3, .int .i64 x.f4, .int .i64 x.f5, .string x.f6, .slice A x.f7.length c]] rfl (by simp only [List.map_toArray, List.map_cons, List.map_nil]; rfl) ?_; refine (HT.out.2.2.2 k x _ c _ _ (HM.out.below HBq.out) HSZ.out ht).mono ?_; rintro e w6 ⟨rfl, hb⟩; refine ⟨_, rfl, ?_⟩; have HB6 := Aside0.mk hb; clear hq0 hqf0; have hq0 : w6.cell? ⟨gx, 0, none⟩ = some (.int .i64 x.f0) := (blk_cell (blk_below HXq.out HB6.out) 0).trans rfl; have hqf0 := blk_frozen (blk_below HXq.out HB6.out) 0; clear hq1 hqf1; have hq1 : w6.cell? ⟨gx, 1, none⟩ = some (.string x.f1) := (blk_cell (blk_below HXq.out HB6.out) 1).trans rfl; have hqf1 := blk_frozen (blk_below HXq.out HB6.out) 1; clear hq2 hqf2; have hq2 : w6.cell? ⟨gx, 2, none⟩ = some (.int .i64 x.f2) := (blk_cell (blk_below HXq.out HB6.out) 2).trans rfl; have hqf2 := blk_frozen (blk_below HXq.out HB6.out) 2; clear hq3 hqf3; have hq3 : w6.cell? ⟨gx, 3, none⟩ = some (.int .i64 x.f3) := (blk_cell (blk_below HXq.out HB6.out) 3).trans rfl; have hqf3 := blk_frozen (blk_below HXq.out HB6.out) 3; clear hq4 hqf4; have hq4 : w6.cell? ⟨gx, 4, none⟩ = some (.int .i64 x.f4) := (blk_cell (blk_below HXq.out HB6.out) 4).trans rfl; have hqf4 := blk_frozen (blk_below HXq.out HB6.out) 4; clear hq5 hqf5; have hq5 : w6.cell? ⟨gx, 5, none⟩ = some (.int .i64 x.f5) := (blk_cell (blk_below HXq.out HB6.out) 5).trans rfl; have hqf5 := blk_frozen (blk_below HXq.out HB6.out) 5; clear hq6 hqf6; have hq6 : w6.cell? ⟨gx, 6, none⟩ = some (.string x.f6) := (blk_cell (blk_below HXq.out HB6.out) 6).trans rfl; have hqf6 := blk_frozen (blk_below HXq.out HB6.out) 6; clear hq7 hqf7; have hq7 : w6.cell? ⟨gx, 7, none⟩ = some (.slice A x.f7.length c) := (blk_cell (blk_below HXq.out HB6.out) 7).trans rfl; have hqf7 := blk_frozen (blk_below HXq.out HB6.out) 7; clear hs0 hsf0; have hs0 : w6.cell? ⟨g3, 0, none⟩ = some (.func (.func ft) #[] #[]) := (blk_cell (blk_below H3q.out HB6.out) 0).trans rfl; have hsf0 := blk_frozen (blk_below H3q.out HB6.out) 0; clear hs1 hsf1; have hs1 : w6.cell? ⟨g3, 1, none⟩ = some (.func (.func fn) #[] #[]) := (blk_cell (blk_below H3q.out HB6.out) 1).trans rfl; have hsf1 := blk_frozen (blk_below H3q.out HB6.out) 1; clear hs2 hsf2; have hs2 : w6.cell? ⟨g3, 2, none⟩ = some (.func (.func fk) #[] ck) := (blk_cell (blk_below H3q.out HB6.out) 2).trans rfl; have hsf2 := blk_frozen (blk_below H3q.out HB6.out) 2; clear hs3 hsf3; have hs3 : w6.cell? ⟨g3, 3, none⟩ = some (.int .i64 mk) := (blk_cell (blk_below H3q.out HB6.out) 3).trans rfl; have hsf3 := blk_frozen (blk_below H3q.out HB6.out) 3; clear hs4 hsf4; have hs4 : w6.cell? ⟨g3, 4, none⟩ = some (.bool dc) := (blk_cell (blk_below H3q.out HB6.out) 4).trans rfl; have hsf4 := blk_frozen (blk_below H3q.out HB6.out) 4; clear hb) | ((with_reducible refine gate_dst (N := 89) rfl ?_); refine callsF (t := 87) rfl rfl rfl HN.out.1 HN.out.2.1 HN.out.2.2.1 #[.agg #[.int .i64 x.f0, .string x.f1, .int .i64 x.f2, .int .i64 x.f3, .int .i64 x.f4, .int .i64 x.f5, .string x.f6, .slice A x.f7.length c]] rfl (by simp only [List.map_toArray, List.map_cons, List.map_nil]; rfl) ?_; refine (HN.out.2.2.2 k x _ c _ _ (HM.out.below (below_step HBq.out HB6.out)) HSZ.out hn).mono ?_; rintro e w7 ⟨rfl, hb⟩; refine ⟨_, rfl, ?_⟩; have HB7 := Aside0.mk (below_step HB6.out hb); clear hq0 hqf0; have hq0 : w7.cell? ⟨gx, 0, none⟩ = some (.int .i64 x.f0) := (blk_cell (blk_below HXq.out HB7.out) 0).trans rfl; have hqf0 := blk_frozen (blk_below HXq.out HB7.out) 0; clear hq1 hqf1; have hq1 : w7.cell? ⟨gx, 1, none⟩ = some (.string x.f1) := (blk_cell (blk_below HXq.out HB7.out) 1).trans rfl; have hqf1 := blk_frozen (blk_below HXq.out HB7.out) 1; clear hq2 hqf2; have hq2 : w7.cell? ⟨gx, 2, none⟩ = some (.int .i64 x.f2) := (blk_cell (blk_below HXq.out HB7.out) 2).trans rfl; have hqf2 := blk_frozen (blk_below HXq.out HB7.out) 2; clear hq3 hqf3; have hq3 : w7.cell? ⟨gx, 3, none⟩ = some (.int .i64 x.f3) := (blk_cell (blk_below HXq.out HB7.out) 3).trans rfl; have hqf3 := blk_frozen (blk_below HXq.out HB7.out) 3; clear hq4 hqf4; have hq4 : w7.cell? ⟨gx, 4, none⟩ = some (.int .i64 x.f4) := (blk_cell (blk_below HXq.out HB7.out) 4).trans rfl; have hqf4 := blk_frozen (blk_below HXq.out HB7.out) 4; clear hq5 hqf5; have hq5 : w7.cell? ⟨gx, 5, none⟩ = some (.int .i64 x.f5) := (blk_cell (blk_below HXq.out HB7.out) 5).trans rfl; have hqf5 := blk_frozen (blk_below HXq.out HB7.out) 5; clear hq6 hqf6; have hq6 : w7.cell? ⟨gx, 6, none⟩ = some (.string x.f6) := (blk_cell (blk_below HXq.out HB7.out) 6).trans rfl; have hqf6 := blk_frozen (blk_below HXq.out HB7.out) 6; clear hq7 hqf7; have hq7 : w7.cell? ⟨gx, 7, none⟩ = some (.slice A x.f7.length c) := (blk_cell (blk_below HXq.out HB7.out) 7).trans rfl; have hqf7 := blk_frozen (blk_below HXq.out HB7.out) 7; clear hs0 hsf0; have hs0 : w7.cell? ⟨g3, 0, none⟩ = some (.func (.func ft) #[] #[]) := (blk_cell (blk_below H3q.out HB7.out) 0).trans rfl; have hsf0 := blk_frozen (blk_below H3q.out HB7.out) 0; clear hs1 hsf1; have hs1 : w7.cell? ⟨g3, 1, none⟩ = some (.func (.func fn) #[] #[]) := (blk_cell (blk_below H3q.out HB7.out) 1).trans rfl; have hsf1 := blk_frozen (blk_below H3q.out HB7.out) 1; clear hs2 hsf2; have hs2 : w7.cell? ⟨g3, 2, none⟩ = some (.func (.func fk) #[] ck) := (blk_cell (blk_below H3q.out HB7.out) 2).trans rfl; have hsf2 := blk_frozen (blk_below H3q.out HB7.out) 2; clear hs3 hsf3; have hs3 : w7.cell? ⟨g3, 3, none⟩ = some (.int .i64 mk) := (blk_cell (blk_below H3q.out HB7.out) 3).trans rfl; have hsf3 := blk_frozen (blk_below H3q.out HB7.out) 3; clear hs4 hsf4; have hs4 : w7.cell? ⟨g3, 4, none⟩ = some (.bool dc) := (blk_cell (blk_below H3q.out HB7.out) 4).trans rfl; have hsf4 := blk_frozen (blk_below H3q.out HB7.out) 4; clear hb) | ((with_reducible refine gate_dst (N := 97) rfl ?_); refine callsF (t := 94) rfl rfl rfl HK.out.1 HK.out.2.1 HK.out.2.2.1 #[.slice _ x.f7.length c] rfl (by simp only [List.map_toArray, List.map_cons, List.map_nil]; rfl) ?_; refine (HK.out.2.2.2.2 k x.f7 _ c _ _ (fun j s => by obtain ⟨cs, t, _, e⟩ := HK.out.2.2.2.1 j s; rw [e]; exact blk_below e HB7.out) (Kd.C_below HC.out (below_step HBq.out HB7.out)) Hc.out hq).mono ?_; rintro e w8 ⟨rfl, hb⟩; refine ⟨_, rfl, ?_⟩; have HB8 := Aside0.mk (below_step HB7.out hb); clear hb))
          go_meet
          case rel => exact ⟨t3, rfl, ⟨H2.out⟩, HB8⟩
       case rest =>
        obtain ⟨b, rfl, HA, HBc⟩ := hcut
        cases b with
        | false =>
         obtain rfl := Option.some.inj (show some false = some r from HA.out)
         go_wp2
         go_ret
         exact ⟨rfl, below_step HBq.out HBc.out⟩
        | true =>
         have H := Aside0.mk (show rightL k x.f7 0 = some r from HA.out)
         have HBw := Aside0.mk (below_step HBq.out HBc.out)
         have HXc := Aside0.mk (blk_below HXq.out HBc.out)
         clear HA HT HN HSq H3q HBc HXq
         clear hq0 hqf0 hq1 hqf1 hq2 hqf2 hq3 hqf3 hq4 hqf4 hq5 hqf5 hq6 hqf6 hq7 hqf7
         clear hs0 hsf0 hs1 hsf1 hs2 hsf2 hs3 hsf3 hs4 hsf4
         obtain ⟨hq0, hqf0, hq1, hqf1, hq2, hqf2, hq3, hqf3, hq4, hqf4, hq5, hqf5, hq6, hqf6, hq7, hqf7⟩ := cells8 HXc.out
         go_wp2
         go_loopg [103] k (fun kq v103 w' => ∃ (i : Int), v103 = .int .i64 i ∧ Aside0 (rightL kq x.f7 i = some r) ∧ Aside0 (kq ≤ k) ∧ Aside0 (Below w.heap.size w w') ∧ True)
         case atStart => exact ⟨0, rfl, H, ⟨Nat.le_refl _⟩, HBw, trivial⟩
         case round =>
          clear H HBw
          clear hq0 hqf0 hq1 hqf1 hq2 hqf2 hq3 hqf3 hq4 hqf4 hq5 hqf5 hq6 hqf6 hq7 hqf7
          obtain ⟨i, rfl, HA, HK, HBr, -⟩ := hrel
          cases gk with
          | zero => exact absurd HA.out (by simp [rightL])
          | succ k1 =>
           have H := HA.out
           clear HA
           simp only [rightL] at H
           by_cases c7 : i < (x.f7.length : Int)
           ·rw [if_pos c7] at H
            by_cases c8 : 0 ≤ i
            ·rw [if_pos c8] at H
             obtain ⟨ad, A7, c77, e, hx0, hx1, hx2, hx3, hx4, hx5, hx6, hx7, hl7, hi7⟩ := at_T24 HC.out i c8 c7
             cases e
             replace hx0 := (HBr.out.cell (World.block_lt_of_cell? w _ hx0)).trans hx0
             replace hx1 := (HBr.out.cell (World.block_lt_of_cell? w _ hx1)).trans hx1
             replace hx2 := (HBr.out.cell (World.block_lt_of_cell? w _ hx2)).trans hx2
             replace hx3 := (HBr.out.cell (World.block_lt_of_cell? w _ hx3)).trans hx3
             replace hx4 := (HBr.out.cell (World.block_lt_of_cell? w _ hx4)).trans hx4
             replace hx5 := (HBr.out.cell (World.block_lt_of_cell? w _ hx5)).trans hx5
             replace hx6 := (HBr.out.cell (World.block_lt_of_cell? w _ hx6)).trans hx6
             replace hx7 := (HBr.out.cell (World.block_lt_of_cell? w _ hx7)).trans hx7
             have HY := Aside0.mk hi7
             have HY7 := Aside0.mk hl7
             clear hi7 hl7
             have c7b := decide_eq_true c7
             have c8b := decide_eq_true c8
             replace c7 := eq_true c7
             replace c8 := eq_true c8
             obtain ⟨y, hy⟩ : ∃ y, rd_T24 x.f7 i = y := ⟨_, rfl⟩
             rw [hy] at H HY HY7 hx0 hx1 hx2 hx3 hx4 hx5 hx6 hx7
             clear hy
             obtain ⟨b, A1, H⟩ := Option.bind_eq_some_iff.mp H
             have A1 := Aside0.mk A1
             have H := Aside0.mk H
             go_wp2_with (first | ((with_reducible refine gate_dst (N := 8) rfl ?_); refine box_event ?hg (N := 8) ?hd (cs := #[.int .i64 0, .string (⟨#[]⟩ : ByteArray), .int .i64 0, .int .i64 0, .int .i64 0, .int .i64 0, .string (⟨#[]⟩ : ByteArray), .slice none 0 0]) (t := 24) ?hr ?_; (case hd => rfl); (case hg => rfl); (case hr => first | (go_simp; done) | (go_simp; rfl)); intro g2 hg w9 hbox hb; have HB9 := Aside0.mk (below_step HBr.out hb); have hgW := Aside0.mk (show w.heap.size ≤ g2 by rw [hg]; exact HBr.out.size); obtain ⟨ha0, haf0, ha1, haf1, ha2, haf2, ha3, haf3, ha4, haf4, ha5, haf5, ha6, haf6, ha7, haf7⟩ := cells8 hbox; clear hbox hb hg))
             obtain ⟨wz, hwz⟩ : ∃ wz, ((((((((w9.setCell ⟨g2, 0, none⟩ (.int .i64 y.f0)).setCell ⟨g2, 1, none⟩ (.string y.f1)).setCell ⟨g2, 2, none⟩ (.int .i64 y.f2)).setCell ⟨g2, 3, none⟩ (.int .i64 y.f3)).setCell ⟨g2, 4, none⟩ (.int .i64 y.f4)).setCell ⟨g2, 5, none⟩ (.int .i64 y.f5)).setCell ⟨g2, 6, none⟩ (.string y.f6)).setCell ⟨g2, 7, none⟩ (.slice A7 y.f7.length c77)) = wz := ⟨_, rfl⟩
             have HBz : Aside0 (Below w.heap.size w wz) := ⟨hwz ▸ (below_set (below_set (below_set (below_set (below_set (below_set (below_set (below_set HB9.out hgW.out (j := 0)) hgW.out (j := 1)) hgW.out (j := 2)) hgW.out (j := 3)) hgW.out (j := 4)) hgW.out (j := 5)) hgW.out (j := 6)) hgW.out (j := 7))⟩
             rw [hwz]
             clear hwz HB9 HBr ha0 haf0 ha1 haf1 ha2 haf2 ha3 haf3 ha4 haf4 ha5 haf5 ha6 haf6 ha7 haf7
             with_reducible refine (ih k1 (by have := HK.out; omega) y A7 c77 b wz (Kd.C_below HY.out HBz.out) HY7.out (HM.out.below HBz.out) A1.out).mono ?_
             rintro e w11 ⟨rfl, hb⟩
             have HB11 := Aside0.mk (below_step HBz.out hb)
             clear hb
             cases b with
             | true =>
              have H2 := Aside0.mk (show rightL k1 x.f7 (wrap64 (i + 1)) = some r from H.out)
              clear H
              go_wp2
              go_roundg k1
              case measure => have := HK.out; omega
              case rel => exact ⟨wrap64 (i + 1), rfl, H2, ⟨by have := HK.out; omega⟩, HB11, trivial⟩
             | false =>
              obtain rfl := Option.some.inj (show some false = some r from H.out)
              go_wp2
              go_ret
              exact ⟨rfl, HB11.out⟩
            ·rw [if_neg c8] at H
             exact absurd H (by simp)
           ·rw [if_neg c7] at H
            obtain rfl := Option.some.inj H
            have c7b := decide_eq_false c7
            clear c7
            go_wp2
            go_ret
            exact ⟨rfl, HBr.out⟩
  ·have hF : headB x = false := by
    unfold headB
    by_cases h1 : 1 ≤ x.f0
    ·rw [decide_eq_false (show ¬ x.f0 ≤ 24 by omega)]; simp
    ·rw [decide_eq_false h1]; rfl
   have H1 := H.out
   rw [if_neg (by rw [hF]; decide)] at H1
   obtain rfl := Option.some.inj H1
   clear H1 hF
   refine (unshaped_calls x.f0 w1 (by omega)).mono ?_
   rintro e w2 ⟨rfl, hb2⟩
   have HB2 := Aside0.mk (below_step HB1.out hb2)
   have HX2 := Aside0.mk (blk_below HX1.out hb2)
   clear hb2
   clear hq0 hqf0 hq1 hqf1 hq2 hqf2 hq3 hqf3 hq4 hqf4 hq5 hqf5 hq6 hqf6 hq7 hqf7
   obtain ⟨hq0, hqf0, hq1, hqf1, hq2, hqf2, hq3, hqf3, hq4, hqf4, hq5, hqf5, hq6, hqf6, hq7, hqf7⟩ := cells8 HX2.out
   go_wp2_with (first | ((with_reducible refine gate_dst (N := 3) rfl ?_); refine box_event ?hg (N := 3) ?hd (cs := #[.nilFunc, .nilFunc, .nilFunc, .int .i64 0, .bool false]) (t := 33) ?hr ?_; (case hd => rfl); (case hg => rfl); (case hr => first | (go_simp; done) | (go_simp; rfl)); intro g3 hg w3 hbox hb; have HB3 := Aside0.mk (below_step HB2.out hb); have HG3 := Aside0.mk (show w.heap.size ≤ g3 by rw [hg]; exact HB2.out.size); have hp0 := pw_cell_below hb hq0; have hp1 := pw_cell_below hb hq1; have hp2 := pw_cell_below hb hq2; have hp3 := pw_cell_below hb hq3; have hp4 := pw_cell_below hb hq4; have hp5 := pw_cell_below hb hq5; have hp6 := pw_cell_below hb hq6; have hp7 := pw_cell_below hb hq7; obtain ⟨hz0, hzf0, hz1, hzf1, hz2, hzf2, hz3, hzf3, hz4, hzf4⟩ := cells5 hbox; clear hbox hb hg))
   go_ret
   exact ⟨rfl, (below_set (below_set (below_set (below_set (below_set HB3.out HG3.out (j := 0)) HG3.out (j := 1)) HG3.out (j := 2)) HG3.out (j := 3)) HG3.out (j := 4))⟩
 ·rw [if_neg hsz] at h
  exact absurd h (by simp)
end Go.Proofs.YtdkepckkihclgaaGreatDoor.PNodeChecks
namespace Go.Proofs.YtdkepckkihclgaaGreatDoor.PNodeChecks
open Go.RowKit Go.Proofs.YtdkepckkihclgaaGreatDoorW.PrintWords Go.Proofs.YtdkepckkihclgaaGreatDoorW.PrintLast Go.Proofs.YtdkepckkihclgaaGreatDoorW.PrintMore
set_option linter.unusedVariables false
set_option linter.unusedSimpArgs false
mutual
def cntF : Nat → List S24 → Int → Option Int
 | 0, _, _ => none
 | k + 1, l, a => if wrap64 (a + 1) > 20000 then some (wrap64 (a + 1)) else cntL k l 0 (wrap64 (a + 1))
def cntL : Nat → List S24 → Int → Int → Option Int
 | 0, _, _, _ => none
 | k + 1, l, i, a => if i < (l.length : Int) then (if 0 ≤ i then ((cntF k (rd_T24 l i).f7 a).bind fun t => if t > 20000 then some t else cntL k l (wrap64 (i + 1)) t) else none) else some a
end
def cFn (bA bD : Nat) : Value := .func (.func 15) #[] #[.pointer (some ⟨bA, 0, none⟩), .pointer (some ⟨bD, 0, none⟩)]
structure CInv (w0 W : World) (bA bD : Nat) (a : Int) : Prop where
 b : Below w0.heap.size w0 W
 gA : w0.heap.size ≤ bA
 gD : w0.heap.size ≤ bD
 A : W.heap[bA]? = some (.cells #[.int .i64 a] 3 (0, 0))
 D : W.heap[bD]? = some (.cells #[cFn bA bD] 29 (0, 0))
theorem CInv.step {w0 W W' : World} {bA bD : Nat} {a : Int} (h : CInv w0 W bA bD a) (hb : Below W.heap.size W W') : CInv w0 W' bA bD a :=
 ⟨below_step h.b hb, h.gA, h.gD, blk_below h.A hb, blk_below h.D hb⟩
theorem CInv.set {w0 W : World} {bA bD : Nat} {a : Int} (h : CInv w0 W bA bD a) (x : Int) : CInv w0 (W.setCell ⟨bA, 0, none⟩ (.int .i64 x)) bA bD x :=
 ⟨below_set h.b h.gA, h.gA, h.gD, blk_put h.A 0 _ rfl, blk_far h.D (blk_ne h.D h.A (by decide)) _⟩
theorem CInv.other {w0 W : World} {bA bD : Nat} {a : Int} (h : CInv w0 W bA bD a) {g : Nat} (hA : bA ≠ g) (hD : bD ≠ g) (hg : w0.heap.size ≤ g) (j : Nat) (x : Value) : CInv w0 (W.setCell ⟨g, j, none⟩ x) bA bD a :=
 ⟨below_set h.b hg, h.gA, h.gD, blk_far h.A hA _, blk_far h.D hD _⟩
set_option maxHeartbeats 8000000 in
set_option maxRecDepth 100000 in
theorem Count1_calls (w0 : World) (k : Nat) : ∀ (x : S24) (A : Option Addr) (c : Nat) (a r : Int) (W : World) (bA bD : Nat), Kd.C k24 w0 A x.f7.length x.f7 → x.f7.length ≤ c → CInv w0 W bA bD a → cntF k x.f7 a = some r →
  Calls Tryz.prog 15 #[.agg #[.int .i64 x.f0, .string x.f1, .int .i64 x.f2, .int .i64 x.f3, .int .i64 x.f4, .int .i64 x.f5, .string x.f6, .slice A x.f7.length c], .pointer (some ⟨bA, 0, none⟩), .pointer (some ⟨bD, 0, none⟩)] W fun e W' => e = .returned (.tuple #[]) ∧ CInv w0 W' bA bD r := by
 induction k using Nat.strongRecOn with
 | _ k ih =>
 intro x A c a r W bA bD hC hc hI h
 cases k with
 | zero => exact absurd h (by simp [cntF])
 | succ k =>
 simp only [cntF] at h
 have HC := Aside0.mk hC
 have HI := Aside0.mk hI
 have Hc := Aside0.mk hc
 have H := Aside0.mk h
 clear hC hc h hI
 by_cases c1 : wrap64 (a + 1) > 20000
 ·have H := H.out
  rw [if_pos c1] at H
  obtain rfl := Option.some.inj H
  have c1b := decide_eq_true c1
  clear c1
  go_enter Tryz.func15, Tryz.ntmps15
  go_wp2_with (first | ((with_reducible refine gate_dst (N := 3) rfl ?_); refine box_event ?hg (N := 3) ?hd (cs := #[.int .i64 x.f0, .string x.f1, .int .i64 x.f2, .int .i64 x.f3, .int .i64 x.f4, .int .i64 x.f5, .string x.f6, .slice A x.f7.length c]) (t := 24) ?hr ?_; (case hd => rfl); (case hg => rfl); (case hr => first | (go_simp; done) | (go_simp; rfl)); intro g hg w1 hbox hb; have HI1 := Aside0.mk (HI.out.step hb); have HX := Aside0.mk hbox; clear hb; have hA : w1.cell? ⟨bA, 0, none⟩ = some (.int .i64 a) := (blk_cell HI1.out.A 0).trans rfl; have hAf := blk_frozen HI1.out.A 0; have hN : bA ≠ g := (fun h => by subst h; exact absurd (blk_lt HI.out.A) (by omega)); have hk7 : w1.cell? ⟨g, 7, none⟩ = some (.slice A x.f7.length c) := (blk_cell hbox 7).trans rfl; clear hbox hg))
  refine bodyPost_ret (results_none rfl _ _ _) rfl ?_
  exact ⟨rfl, HI1.out.set _⟩
 ·have H := H.out
  rw [if_neg c1] at H
  have c1b := decide_eq_false c1
  have H := Aside0.mk H
  clear c1
  go_enter Tryz.func15, Tryz.ntmps15
  go_wp2_with (first | ((with_reducible refine gate_dst (N := 3) rfl ?_); refine box_event ?hg (N := 3) ?hd (cs := #[.int .i64 x.f0, .string x.f1, .int .i64 x.f2, .int .i64 x.f3, .int .i64 x.f4, .int .i64 x.f5, .string x.f6, .slice A x.f7.length c]) (t := 24) ?hr ?_; (case hd => rfl); (case hg => rfl); (case hr => first | (go_simp; done) | (go_simp; rfl)); intro g hg w1 hbox hb; have HI1 := Aside0.mk (HI.out.step hb); have HX := Aside0.mk hbox; clear hb; have hA : w1.cell? ⟨bA, 0, none⟩ = some (.int .i64 a) := (blk_cell HI1.out.A 0).trans rfl; have hAf := blk_frozen HI1.out.A 0; have hN : bA ≠ g := (fun h => by subst h; exact absurd (blk_lt HI.out.A) (by omega)); have hk7 : w1.cell? ⟨g, 7, none⟩ = some (.slice A x.f7.length c) := (blk_cell hbox 7).trans rfl; clear hbox hg))
  go_loopg [13] k (fun kq v13 w' => ∃ (i : Int) (a1 : Int), v13 = .int .i64 i ∧ Aside0 (cntL kq x.f7 i a1 = some r) ∧ Aside0 (kq ≤ k) ∧ Aside0 (CInv w0 w' bA bD a1))
  case atStart => exact ⟨0, _, rfl, H, ⟨Nat.le_refl _⟩, ⟨HI1.out.set _⟩⟩
  case round =>
   clear H HI1 HX hA hAf c1b hk7 hN
   obtain ⟨i, a1, rfl, HA, HK, HI1⟩ := hrel
   cases gk with
   | zero => exact absurd HA.out (by simp [cntL])
   | succ k1 =>
    have H := HA.out
    clear HA
    simp only [cntL] at H
    by_cases c7 : i < (x.f7.length : Int)
    ·rw [if_pos c7] at H
     by_cases c8 : 0 ≤ i
     ·rw [if_pos c8] at H
      replace H := Option.bind_eq_some_iff.mp H
      obtain ⟨t1, A1, H⟩ := H
      have A1 := Aside0.mk A1
      have H := Aside0.mk H
      obtain ⟨ad, A7, c77, e, hx0, hx1, hx2, hx3, hx4, hx5, hx6, hx7, hl7, hi7⟩ := at_T24 HC.out i c8 c7
      cases e
      have HB := HI1.out.b
      replace hx0 := (HB.cell (World.block_lt_of_cell? w0 _ hx0)).trans hx0
      replace hx1 := (HB.cell (World.block_lt_of_cell? w0 _ hx1)).trans hx1
      replace hx2 := (HB.cell (World.block_lt_of_cell? w0 _ hx2)).trans hx2
      replace hx3 := (HB.cell (World.block_lt_of_cell? w0 _ hx3)).trans hx3
      replace hx4 := (HB.cell (World.block_lt_of_cell? w0 _ hx4)).trans hx4
      replace hx5 := (HB.cell (World.block_lt_of_cell? w0 _ hx5)).trans hx5
      replace hx6 := (HB.cell (World.block_lt_of_cell? w0 _ hx6)).trans hx6
      replace hx7 := (HB.cell (World.block_lt_of_cell? w0 _ hx7)).trans hx7
      have HR7 := Aside0.mk hi7
      have HC7 := Aside0.mk hl7
      clear hi7 hl7 HB
      have c7b := decide_eq_true c7
      have c8b := decide_eq_true c8
      replace c7 := eq_true c7
      replace c8 := eq_true c8
      go_wp2_with (first | ((with_reducible refine gate_dst (N := 5) rfl ?_); refine box_event ?hg (N := 5) ?hd (cs := #[.int .i64 0, .string (⟨#[]⟩ : ByteArray), .int .i64 0, .int .i64 0, .int .i64 0, .int .i64 0, .string (⟨#[]⟩ : ByteArray), .slice none 0 0]) (t := 24) ?hr ?_; (case hd => rfl); (case hg => rfl); (case hr => first | (go_simp; done) | (go_simp; rfl)); intro g2 hg w2 hbox hb; have HI2 := Aside0.mk (HI1.out.step hb); have HX2 := Aside0.mk hbox; have hz0 : w2.cell? ⟨g2, 0, none⟩ = some (.int .i64 0) := (blk_cell hbox 0).trans rfl; have hz1 : w2.cell? ⟨g2, 1, none⟩ = some (.string (⟨#[]⟩ : ByteArray)) := (blk_cell hbox 1).trans rfl; have hz2 : w2.cell? ⟨g2, 2, none⟩ = some (.int .i64 0) := (blk_cell hbox 2).trans rfl; have hz3 : w2.cell? ⟨g2, 3, none⟩ = some (.int .i64 0) := (blk_cell hbox 3).trans rfl; have hz4 : w2.cell? ⟨g2, 4, none⟩ = some (.int .i64 0) := (blk_cell hbox 4).trans rfl; have hz5 : w2.cell? ⟨g2, 5, none⟩ = some (.int .i64 0) := (blk_cell hbox 5).trans rfl; have hz6 : w2.cell? ⟨g2, 6, none⟩ = some (.string (⟨#[]⟩ : ByteArray)) := (blk_cell hbox 6).trans rfl; have hz7 : w2.cell? ⟨g2, 7, none⟩ = some (.slice none 0 0) := (blk_cell hbox 7).trans rfl; have hf0 := blk_frozen hbox 0; have hf1 := blk_frozen hbox 1; have hf2 := blk_frozen hbox 2; have hf3 := blk_frozen hbox 3; have hf4 := blk_frozen hbox 4; have hf5 := blk_frozen hbox 5; have hf6 := blk_frozen hbox 6; have hf7 := blk_frozen hbox 7; have GE := Aside0.mk ((by have := HI1.out.b.size; omega) : w0.heap.size ≤ g2); have hNA : bA ≠ g2 := (fun h => by subst h; exact absurd (blk_lt HI1.out.A) (by omega)); have hND : bD ≠ g2 := (fun h => by subst h; exact absurd (blk_lt HI1.out.D) (by omega)); have hND' := hND.symm; have hNA' := hNA.symm; have hD : w2.cell? ⟨bD, 0, none⟩ = some (cFn bA bD) := (blk_cell HI2.out.D 0).trans rfl; unfold cFn at hD; clear hb hbox hg))
      with_reducible refine (ih k1 (by have := HK.out; omega) (rd_T24 x.f7 i) A7 c77 a1 t1 _ bA bD HR7.out HC7.out ?side1 A1.out).mono ?_
      case side1 => exact (((((((HI2.out.other hNA hND (GE.out) 0 _).other hNA hND (GE.out) 1 _).other hNA hND (GE.out) 2 _).other hNA hND (GE.out) 3 _).other hNA hND (GE.out) 4 _).other hNA hND (GE.out) 5 _).other hNA hND (GE.out) 6 _).other hNA hND (GE.out) 7 _
      rintro e w3 ⟨rfl, hI3⟩
      have HI3 := Aside0.mk hI3
      have hA3 : w3.cell? ⟨bA, 0, none⟩ = some (.int .i64 t1) := (blk_cell hI3.A 0).trans rfl
      clear hI3
      by_cases c9 : t1 > 20000
      ·have H := H.out
       rw [if_pos c9] at H
       obtain rfl := Option.some.inj H
       have c9b := decide_eq_true c9
       clear c9 H
       go_wp2
       refine bodyPost_ret (results_none rfl _ _ _) rfl ?_
       exact ⟨rfl, HI3.out⟩
      ·have H := H.out
       rw [if_neg c9] at H
       have H := Aside0.mk H
       have c9b := decide_eq_false c9
       clear c9
       go_wp2
       go_roundg k1
       case measure => have := HK.out; omega
       case rel => exact ⟨wrap64 (i + 1), t1, rfl, H, ⟨by have := HK.out; omega⟩, HI3⟩
     ·rw [if_neg c8] at H
      exact absurd H (by simp)
    ·rw [if_neg c7] at H
     obtain rfl := Option.some.inj H
     have c7b := decide_eq_false c7
     clear c7
     go_wp2
     refine bodyPost_end (results_none rfl _ _ _) rfl ?_
     exact ⟨rfl, HI1.out⟩
def node_Count.f (k : Nat) (a0_0 : Int) (a0_1 : ByteArray) (a0_2 : Int) (a0_3 : Int) (a0_4 : Int) (a0_5 : Int) (a0_6 : ByteArray) (l0_7 : List (S24)) : Option (Int) := (cntF k l0_7 0).bind fun t => if t > 20000 then some 30000 else some t
set_option maxHeartbeats 8000000 in
set_option maxRecDepth 100000 in
theorem node_Count.calls (k : Nat) (a0_0 : Int) (a0_1 : ByteArray) (a0_2 : Int) (a0_3 : Int) (a0_4 : Int) (a0_5 : Int) (a0_6 : ByteArray) (A0_7 : Option Addr) (c0_7 : Nat) (l0_7 : List (S24)) (r : Int) (w : World) (hr0_7 : Kd.C k24 w A0_7 l0_7.length l0_7) (hc0_7 : l0_7.length ≤ c0_7) (h : node_Count.f k a0_0 a0_1 a0_2 a0_3 a0_4 a0_5 a0_6 l0_7 = some r) :
  Calls Tryz.prog 8 #[.agg #[.int .i64 a0_0, .string a0_1, .int .i64 a0_2, .int .i64 a0_3, .int .i64 a0_4, .int .i64 a0_5, .string a0_6, .slice A0_7 l0_7.length c0_7]] w fun e w' => e = .returned (.int .i64 r) ∧ Below w.heap.size w w' := by
 obtain ⟨t, A1, H⟩ := Option.bind_eq_some_iff.mp h
 have HR := Aside0.mk hr0_7
 have HC := Aside0.mk hc0_7
 have A1 := Aside0.mk A1
 have HB := Aside0.mk (Below.refl w.heap.size w)
 clear h hr0_7 hc0_7
 by_cases c1 : t > 20000
 all_goals
  (first | rw [if_pos c1] at H | rw [if_neg c1] at H)
  obtain rfl := Option.some.inj H
  (first | have c1b : decide (20000 < t) = true := decide_eq_true c1 | have c1b : decide (20000 < t) = false := decide_eq_false c1)
  clear c1 H
  go_enter Tryz.func8, Tryz.ntmps8
  go_wp2_with (first
   | ((with_reducible refine gate_dst (N := 1) rfl ?_); refine box_event ?hg (N := 1) ?hd (cs := #[.int .i64 a0_0, .string a0_1, .int .i64 a0_2, .int .i64 a0_3, .int .i64 a0_4, .int .i64 a0_5, .string a0_6, .slice A0_7 l0_7.length c0_7]) (t := 24) ?hr ?_; (case hd => rfl); (case hg => rfl); (case hr => first | (go_simp; done) | (go_simp; rfl)); intro g hg w1 hbox hb; have HB1 := Aside0.mk (below_step HB.out hb); have hq0 : w1.cell? ⟨g, 0, none⟩ = some (.int .i64 a0_0) := (blk_cell hbox 0).trans rfl; have hq1 : w1.cell? ⟨g, 1, none⟩ = some (.string a0_1) := (blk_cell hbox 1).trans rfl; have hq2 : w1.cell? ⟨g, 2, none⟩ = some (.int .i64 a0_2) := (blk_cell hbox 2).trans rfl; have hq3 : w1.cell? ⟨g, 3, none⟩ = some (.int .i64 a0_3) := (blk_cell hbox 3).trans rfl; have hq4 : w1.cell? ⟨g, 4, none⟩ = some (.int .i64 a0_4) := (blk_cell hbox 4).trans rfl; have hq5 : w1.cell? ⟨g, 5, none⟩ = some (.int .i64 a0_5) := (blk_cell hbox 5).trans rfl; have hq6 : w1.cell? ⟨g, 6, none⟩ = some (.string a0_6) := (blk_cell hbox 6).trans rfl; have hq7 : w1.cell? ⟨g, 7, none⟩ = some (.slice A0_7 l0_7.length c0_7) := (blk_cell hbox 7).trans rfl; have hlt := blk_lt hbox; clear hbox hb hg)
   )
  have hI : CInv w ((w1.alloc (Obj.cells #[.int .i64 0] 3)).alloc (Obj.cells #[cFn w1.heap.size (w1.heap.size + 1)] 29)) w1.heap.size (w1.heap.size + 1) 0 :=
   ⟨below_alloc (below_alloc HB1.out _) _, HB1.out.size, by have := HB1.out.size; omega, blk_alloc (blk_new w1 _) _, by have := blk_new (w1.alloc (Obj.cells #[.int .i64 0] 3)) (Obj.cells #[cFn w1.heap.size (w1.heap.size + 1)] 29); rwa [World.size_alloc] at this⟩
  have hcall := Count1_calls w k ⟨a0_0, a0_1, a0_2, a0_3, a0_4, a0_5, a0_6, l0_7⟩ A0_7 c0_7 0 t _ _ _ HR.out HC.out hI A1.out
  dsimp only [cFn] at hcall
  with_reducible refine hcall.mono ?_
  clear hcall
  rintro e w3 ⟨rfl, hI3⟩
  have HI3 := Aside0.mk hI3
  have hA3 : w3.cell? ⟨w1.heap.size, 0, none⟩ = some (.int .i64 t) := (blk_cell hI3.A 0).trans rfl
  clear hI3 hI
  go_wp2
  refine bodyPost_ret (results_tmp rfl _ _ _) rfl ?_
  exact ⟨rfl, HI3.out.b⟩
end Go.Proofs.YtdkepckkihclgaaGreatDoor.PNodeChecks

import Derived.Test.YtdkepckkihclgaaGreatDoorM7
namespace Go.Proofs.YtdkepckkihclgaaGreatDoor.PNodeChecks
open Go.RowKit Go.Proofs.YtdkepckkihclgaaGreatDoorW.PrintWords Go.Proofs.YtdkepckkihclgaaGreatDoorW.PrintLast Go.Proofs.YtdkepckkihclgaaGreatDoorW.PrintMore
set_option linter.unusedVariables false
set_option linter.unusedSimpArgs false
def rtB (k : Nat) (kd : Int) (x : S24) (i3 p q : Bool) : Option Bool := if kd = 1 then some ((x.f1.toList == ([] : List UInt8)) || ((x.f1.toList == ([112, 114, 111, 116, 111, 50] : List UInt8)) || (x.f1.toList == ([112, 114, 111, 116, 111, 51] : List UInt8)))) else if kd = 2 then some (decide (x.f1.size ≤ 1000)) else if kd = 3 then glossaryref05_Full.f k x.f1 else if kd = 4 then some (x.f1.toList == ([] : List UInt8)) else if kd = 7 then some (p && q) else if kd = 12 then some (x.f1.toList == ([] : List UInt8)) else if kd = 13 then some (x.f1.toList == ([] : List UInt8)) else if kd = 14 then some (x.f1.toList == ([] : List UInt8)) else if kd = 16 then (glossaryref05_Ident.f k x.f1).map fun b => b && (!(x.f1.toList == ([111, 112, 116, 105, 111, 110] : List UInt8)) && !(x.f1.toList == ([114, 101, 115, 101, 114, 118, 101, 100] : List UInt8))) else if kd = 18 then some p else if kd = 19 then if (x.f4 == 1) = true then glossaryref07_ref.f k x.f1 else glossaryref05_Ident.f k x.f1 else if kd = 20 then some i3 else if kd = 22 then some (decide (x.f1.size ≤ 10000)) else if kd = 23 then some (x.f1.toList == ([] : List UInt8)) else if kd = 24 then if (x.f4 == 1) = true then glossaryref07_ref.f k x.f1 else glossaryref05_Ident.f k x.f1 else glossaryref05_Ident.f k x.f1
def refText (k : Nat) (x : S24) : Option Bool := (refInt.f k x.f1).bind fun i => (glossaryref07_Type.f k x.f1).bind fun t => rtB k x.f0 x i.2.2 t.1 t.2
def NoT (κ : Int) : Prop := (κ == 1) = false ∧ decide (κ = 1) = false ∧ (κ == 2) = false ∧ decide (κ = 2) = false ∧ (κ == 3) = false ∧ decide (κ = 3) = false ∧ (κ == 7) = false ∧ decide (κ = 7) = false ∧ (κ == 18) = false ∧ decide (κ = 18) = false ∧ (κ == 19) = false ∧ decide (κ = 19) = false ∧ (κ == 24) = false ∧ decide (κ = 24) = false ∧ (κ == 20) = false ∧ decide (κ = 20) = false ∧ (κ == 22) = false ∧ decide (κ = 22) = false ∧ (κ == 4) = false ∧ decide (κ = 4) = false ∧ (κ == 12) = false ∧ decide (κ = 12) = false ∧ (κ == 13) = false ∧ decide (κ = 13) = false ∧ (κ == 14) = false ∧ decide (κ = 14) = false ∧ (κ == 23) = false ∧ decide (κ = 23) = false ∧ (κ == 16) = false ∧ decide (κ = 16) = false
set_option maxHeartbeats 16000000 in
set_option maxRecDepth 100000 in
theorem rtext_1 (k : Nat) (x : S24) (A : Option Addr) (c : Nat) (i1 : Int) (i2 i3 p q r : Bool) (w : World) (hI : refInt.f k x.f1 = some (i1, i2, i3)) (hT : glossaryref07_Type.f k x.f1 = some (p, q)) (h : (some ((x.f1.toList == ([] : List UInt8)) || ((x.f1.toList == ([112, 114, 111, 116, 111, 50] : List UInt8)) || (x.f1.toList == ([112, 114, 111, 116, 111, 51] : List UInt8))))) = some r) :
  Calls Tryz.prog 27 #[.agg #[.int .i64 1, .string x.f1, .int .i64 x.f2, .int .i64 x.f3, .int .i64 x.f4, .int .i64 x.f5, .string x.f6, .slice A x.f7.length c]] w fun e w' => e = .returned (.bool r) ∧ Below w.heap.size w w' := by
 have HI := Aside0.mk hI
 have HT := Aside0.mk hT
 clear hI hT
 obtain rfl := Option.some.inj h
 clear h
 cases h0 : (x.f1.toList == ([] : List UInt8))
 ·cases h1 : (x.f1.toList == ([112, 114, 111, 116, 111, 50] : List UInt8))
  ·skip
   go_enter Tryz.func27, Tryz.ntmps27
   go_wp2_with (first | ((with_reducible refine gate_dst (N := 1) rfl ?_); refine box_event ?hg (N := 1) ?hd (cs := #[.int .i64 1, .string x.f1, .int .i64 x.f2, .int .i64 x.f3, .int .i64 x.f4, .int .i64 x.f5, .string x.f6, .slice A x.f7.length c]) (t := 24) ?hr ?_; (case hd => rfl); (case hg => rfl); (case hr => first | (go_simp; done) | (go_simp; rfl)); intro gx hg w1 hbox hb; have HB1 := Aside0.mk hb; have HX1 := Aside0.mk hbox; obtain ⟨hq0, hqf0, hq1, hqf1, hq2, hqf2, hq3, hqf3, hq4, hqf4, hq5, hqf5, hq6, hqf6, hq7, hqf7⟩ := cells8 hbox; clear hbox hb hg))
   refine (refInt.calls k x.f1 i1 i2 i3 _ HI.out).mono ?_
   rintro e w2 ⟨rfl, hb⟩
   have HB2 := Aside0.mk hb
   clear hb
   clear hq0 hqf0 hq1 hqf1 hq2 hqf2 hq3 hqf3 hq4 hqf4 hq5 hqf5 hq6 hqf6 hq7 hqf7
   obtain ⟨hq0, hqf0, hq1, hqf1, hq2, hqf2, hq3, hqf3, hq4, hqf4, hq5, hqf5, hq6, hqf6, hq7, hqf7⟩ := cells8 (blk_below HX1.out HB2.out)
   go_wp2_with (fail)
   refine (glossaryref07_Type.calls k x.f1 p q _ HT.out).mono ?_
   rintro e w3 ⟨rfl, hb⟩
   have HB3 := Aside0.mk (below_step HB2.out hb)
   clear hb
   clear hq0 hqf0 hq1 hqf1 hq2 hqf2 hq3 hqf3 hq4 hqf4 hq5 hqf5 hq6 hqf6 hq7 hqf7
   obtain ⟨hq0, hqf0, hq1, hqf1, hq2, hqf2, hq3, hqf3, hq4, hqf4, hq5, hqf5, hq6, hqf6, hq7, hqf7⟩ := cells8 (blk_below HX1.out HB3.out)
   go_wp2
   go_ret
   exact ⟨by simp, below_step HB1.out HB3.out⟩
  ·skip
   go_enter Tryz.func27, Tryz.ntmps27
   go_wp2_with (first | ((with_reducible refine gate_dst (N := 1) rfl ?_); refine box_event ?hg (N := 1) ?hd (cs := #[.int .i64 1, .string x.f1, .int .i64 x.f2, .int .i64 x.f3, .int .i64 x.f4, .int .i64 x.f5, .string x.f6, .slice A x.f7.length c]) (t := 24) ?hr ?_; (case hd => rfl); (case hg => rfl); (case hr => first | (go_simp; done) | (go_simp; rfl)); intro gx hg w1 hbox hb; have HB1 := Aside0.mk hb; have HX1 := Aside0.mk hbox; obtain ⟨hq0, hqf0, hq1, hqf1, hq2, hqf2, hq3, hqf3, hq4, hqf4, hq5, hqf5, hq6, hqf6, hq7, hqf7⟩ := cells8 hbox; clear hbox hb hg))
   refine (refInt.calls k x.f1 i1 i2 i3 _ HI.out).mono ?_
   rintro e w2 ⟨rfl, hb⟩
   have HB2 := Aside0.mk hb
   clear hb
   clear hq0 hqf0 hq1 hqf1 hq2 hqf2 hq3 hqf3 hq4 hqf4 hq5 hqf5 hq6 hqf6 hq7 hqf7
   obtain ⟨hq0, hqf0, hq1, hqf1, hq2, hqf2, hq3, hqf3, hq4, hqf4, hq5, hqf5, hq6, hqf6, hq7, hqf7⟩ := cells8 (blk_below HX1.out HB2.out)
   go_wp2_with (fail)
   refine (glossaryref07_Type.calls k x.f1 p q _ HT.out).mono ?_
   rintro e w3 ⟨rfl, hb⟩
   have HB3 := Aside0.mk (below_step HB2.out hb)
   clear hb
   clear hq0 hqf0 hq1 hqf1 hq2 hqf2 hq3 hqf3 hq4 hqf4 hq5 hqf5 hq6 hqf6 hq7 hqf7
   obtain ⟨hq0, hqf0, hq1, hqf1, hq2, hqf2, hq3, hqf3, hq4, hqf4, hq5, hqf5, hq6, hqf6, hq7, hqf7⟩ := cells8 (blk_below HX1.out HB3.out)
   go_wp2
   go_ret
   exact ⟨by simp, below_step HB1.out HB3.out⟩
 ·skip
  go_enter Tryz.func27, Tryz.ntmps27
  go_wp2_with (first | ((with_reducible refine gate_dst (N := 1) rfl ?_); refine box_event ?hg (N := 1) ?hd (cs := #[.int .i64 1, .string x.f1, .int .i64 x.f2, .int .i64 x.f3, .int .i64 x.f4, .int .i64 x.f5, .string x.f6, .slice A x.f7.length c]) (t := 24) ?hr ?_; (case hd => rfl); (case hg => rfl); (case hr => first | (go_simp; done) | (go_simp; rfl)); intro gx hg w1 hbox hb; have HB1 := Aside0.mk hb; have HX1 := Aside0.mk hbox; obtain ⟨hq0, hqf0, hq1, hqf1, hq2, hqf2, hq3, hqf3, hq4, hqf4, hq5, hqf5, hq6, hqf6, hq7, hqf7⟩ := cells8 hbox; clear hbox hb hg))
  refine (refInt.calls k x.f1 i1 i2 i3 _ HI.out).mono ?_
  rintro e w2 ⟨rfl, hb⟩
  have HB2 := Aside0.mk hb
  clear hb
  clear hq0 hqf0 hq1 hqf1 hq2 hqf2 hq3 hqf3 hq4 hqf4 hq5 hqf5 hq6 hqf6 hq7 hqf7
  obtain ⟨hq0, hqf0, hq1, hqf1, hq2, hqf2, hq3, hqf3, hq4, hqf4, hq5, hqf5, hq6, hqf6, hq7, hqf7⟩ := cells8 (blk_below HX1.out HB2.out)
  go_wp2_with (fail)
  refine (glossaryref07_Type.calls k x.f1 p q _ HT.out).mono ?_
  rintro e w3 ⟨rfl, hb⟩
  have HB3 := Aside0.mk (below_step HB2.out hb)
  clear hb
  clear hq0 hqf0 hq1 hqf1 hq2 hqf2 hq3 hqf3 hq4 hqf4 hq5 hqf5 hq6 hqf6 hq7 hqf7
  obtain ⟨hq0, hqf0, hq1, hqf1, hq2, hqf2, hq3, hqf3, hq4, hqf4, hq5, hqf5, hq6, hqf6, hq7, hqf7⟩ := cells8 (blk_below HX1.out HB3.out)
  go_wp2
  go_ret
  exact ⟨by simp, below_step HB1.out HB3.out⟩
set_option maxHeartbeats 16000000 in
set_option maxRecDepth 100000 in
theorem rtext_2 (k : Nat) (x : S24) (A : Option Addr) (c : Nat) (i1 : Int) (i2 i3 p q r : Bool) (w : World) (hI : refInt.f k x.f1 = some (i1, i2, i3)) (hT : glossaryref07_Type.f k x.f1 = some (p, q)) (h : (some (decide (x.f1.size ≤ 1000))) = some r) :
  Calls Tryz.prog 27 #[.agg #[.int .i64 2, .string x.f1, .int .i64 x.f2, .int .i64 x.f3, .int .i64 x.f4, .int .i64 x.f5, .string x.f6, .slice A x.f7.length c]] w fun e w' => e = .returned (.bool r) ∧ Below w.heap.size w w' := by
 have HI := Aside0.mk hI
 have HT := Aside0.mk hT
 clear hI hT
 obtain rfl := Option.some.inj h
 clear h
 go_enter Tryz.func27, Tryz.ntmps27
 go_wp2_with (first | ((with_reducible refine gate_dst (N := 1) rfl ?_); refine box_event ?hg (N := 1) ?hd (cs := #[.int .i64 2, .string x.f1, .int .i64 x.f2, .int .i64 x.f3, .int .i64 x.f4, .int .i64 x.f5, .string x.f6, .slice A x.f7.length c]) (t := 24) ?hr ?_; (case hd => rfl); (case hg => rfl); (case hr => first | (go_simp; done) | (go_simp; rfl)); intro gx hg w1 hbox hb; have HB1 := Aside0.mk hb; have HX1 := Aside0.mk hbox; obtain ⟨hq0, hqf0, hq1, hqf1, hq2, hqf2, hq3, hqf3, hq4, hqf4, hq5, hqf5, hq6, hqf6, hq7, hqf7⟩ := cells8 hbox; clear hbox hb hg))
 refine (refInt.calls k x.f1 i1 i2 i3 _ HI.out).mono ?_
 rintro e w2 ⟨rfl, hb⟩
 have HB2 := Aside0.mk hb
 clear hb
 clear hq0 hqf0 hq1 hqf1 hq2 hqf2 hq3 hqf3 hq4 hqf4 hq5 hqf5 hq6 hqf6 hq7 hqf7
 obtain ⟨hq0, hqf0, hq1, hqf1, hq2, hqf2, hq3, hqf3, hq4, hqf4, hq5, hqf5, hq6, hqf6, hq7, hqf7⟩ := cells8 (blk_below HX1.out HB2.out)
 go_wp2_with (fail)
 refine (glossaryref07_Type.calls k x.f1 p q _ HT.out).mono ?_
 rintro e w3 ⟨rfl, hb⟩
 have HB3 := Aside0.mk (below_step HB2.out hb)
 clear hb
 clear hq0 hqf0 hq1 hqf1 hq2 hqf2 hq3 hqf3 hq4 hqf4 hq5 hqf5 hq6 hqf6 hq7 hqf7
 obtain ⟨hq0, hqf0, hq1, hqf1, hq2, hqf2, hq3, hqf3, hq4, hqf4, hq5, hqf5, hq6, hqf6, hq7, hqf7⟩ := cells8 (blk_below HX1.out HB3.out)
 go_wp2
 go_ret
 exact ⟨by (have : decide ((x.f1.size : Int) ≤ 1000) = decide (x.f1.size ≤ 1000) := by (rw [Bool.eq_iff_iff, decide_eq_true_eq, decide_eq_true_eq]; omega)); rw [← this]; rfl, below_step HB1.out HB3.out⟩
set_option maxHeartbeats 16000000 in
set_option maxRecDepth 100000 in
theorem rtext_3 (k : Nat) (x : S24) (A : Option Addr) (c : Nat) (i1 : Int) (i2 i3 p q r : Bool) (w : World) (hI : refInt.f k x.f1 = some (i1, i2, i3)) (hT : glossaryref07_Type.f k x.f1 = some (p, q)) (h : (glossaryref05_Full.f k x.f1) = some r) :
  Calls Tryz.prog 27 #[.agg #[.int .i64 3, .string x.f1, .int .i64 x.f2, .int .i64 x.f3, .int .i64 x.f4, .int .i64 x.f5, .string x.f6, .slice A x.f7.length c]] w fun e w' => e = .returned (.bool r) ∧ Below w.heap.size w w' := by
 have HI := Aside0.mk hI
 have HT := Aside0.mk hT
 clear hI hT
 have H := Aside0.mk h
 clear h
 go_enter Tryz.func27, Tryz.ntmps27
 go_wp2_with (first | ((with_reducible refine gate_dst (N := 1) rfl ?_); refine box_event ?hg (N := 1) ?hd (cs := #[.int .i64 3, .string x.f1, .int .i64 x.f2, .int .i64 x.f3, .int .i64 x.f4, .int .i64 x.f5, .string x.f6, .slice A x.f7.length c]) (t := 24) ?hr ?_; (case hd => rfl); (case hg => rfl); (case hr => first | (go_simp; done) | (go_simp; rfl)); intro gx hg w1 hbox hb; have HB1 := Aside0.mk hb; have HX1 := Aside0.mk hbox; obtain ⟨hq0, hqf0, hq1, hqf1, hq2, hqf2, hq3, hqf3, hq4, hqf4, hq5, hqf5, hq6, hqf6, hq7, hqf7⟩ := cells8 hbox; clear hbox hb hg))
 refine (refInt.calls k x.f1 i1 i2 i3 _ HI.out).mono ?_
 rintro e w2 ⟨rfl, hb⟩
 have HB2 := Aside0.mk hb
 clear hb
 clear hq0 hqf0 hq1 hqf1 hq2 hqf2 hq3 hqf3 hq4 hqf4 hq5 hqf5 hq6 hqf6 hq7 hqf7
 obtain ⟨hq0, hqf0, hq1, hqf1, hq2, hqf2, hq3, hqf3, hq4, hqf4, hq5, hqf5, hq6, hqf6, hq7, hqf7⟩ := cells8 (blk_below HX1.out HB2.out)
 go_wp2_with (fail)
 refine (glossaryref07_Type.calls k x.f1 p q _ HT.out).mono ?_
 rintro e w3 ⟨rfl, hb⟩
 have HB3 := Aside0.mk (below_step HB2.out hb)
 clear hb
 clear hq0 hqf0 hq1 hqf1 hq2 hqf2 hq3 hqf3 hq4 hqf4 hq5 hqf5 hq6 hqf6 hq7 hqf7
 obtain ⟨hq0, hqf0, hq1, hqf1, hq2, hqf2, hq3, hqf3, hq4, hqf4, hq5, hqf5, hq6, hqf6, hq7, hqf7⟩ := cells8 (blk_below HX1.out HB3.out)
 go_wp2_with (fail)
 refine (glossaryref05_Full.calls k x.f1 r _ H.out).mono ?_
 rintro e w4 ⟨rfl, hb⟩
 have HB4 := Aside0.mk (below_step HB3.out hb)
 clear hb
 go_wp2
 go_ret
 exact ⟨rfl, below_step HB1.out HB4.out⟩
set_option maxHeartbeats 16000000 in
set_option maxRecDepth 100000 in
theorem rtext_4 (k : Nat) (x : S24) (A : Option Addr) (c : Nat) (i1 : Int) (i2 i3 p q r : Bool) (w : World) (hI : refInt.f k x.f1 = some (i1, i2, i3)) (hT : glossaryref07_Type.f k x.f1 = some (p, q)) (h : (some (x.f1.toList == ([] : List UInt8))) = some r) :
  Calls Tryz.prog 27 #[.agg #[.int .i64 4, .string x.f1, .int .i64 x.f2, .int .i64 x.f3, .int .i64 x.f4, .int .i64 x.f5, .string x.f6, .slice A x.f7.length c]] w fun e w' => e = .returned (.bool r) ∧ Below w.heap.size w w' := by
 have HI := Aside0.mk hI
 have HT := Aside0.mk hT
 clear hI hT
 obtain rfl := Option.some.inj h
 clear h
 go_enter Tryz.func27, Tryz.ntmps27
 go_wp2_with (first | ((with_reducible refine gate_dst (N := 1) rfl ?_); refine box_event ?hg (N := 1) ?hd (cs := #[.int .i64 4, .string x.f1, .int .i64 x.f2, .int .i64 x.f3, .int .i64 x.f4, .int .i64 x.f5, .string x.f6, .slice A x.f7.length c]) (t := 24) ?hr ?_; (case hd => rfl); (case hg => rfl); (case hr => first | (go_simp; done) | (go_simp; rfl)); intro gx hg w1 hbox hb; have HB1 := Aside0.mk hb; have HX1 := Aside0.mk hbox; obtain ⟨hq0, hqf0, hq1, hqf1, hq2, hqf2, hq3, hqf3, hq4, hqf4, hq5, hqf5, hq6, hqf6, hq7, hqf7⟩ := cells8 hbox; clear hbox hb hg))
 refine (refInt.calls k x.f1 i1 i2 i3 _ HI.out).mono ?_
 rintro e w2 ⟨rfl, hb⟩
 have HB2 := Aside0.mk hb
 clear hb
 clear hq0 hqf0 hq1 hqf1 hq2 hqf2 hq3 hqf3 hq4 hqf4 hq5 hqf5 hq6 hqf6 hq7 hqf7
 obtain ⟨hq0, hqf0, hq1, hqf1, hq2, hqf2, hq3, hqf3, hq4, hqf4, hq5, hqf5, hq6, hqf6, hq7, hqf7⟩ := cells8 (blk_below HX1.out HB2.out)
 go_wp2_with (fail)
 refine (glossaryref07_Type.calls k x.f1 p q _ HT.out).mono ?_
 rintro e w3 ⟨rfl, hb⟩
 have HB3 := Aside0.mk (below_step HB2.out hb)
 clear hb
 clear hq0 hqf0 hq1 hqf1 hq2 hqf2 hq3 hqf3 hq4 hqf4 hq5 hqf5 hq6 hqf6 hq7 hqf7
 obtain ⟨hq0, hqf0, hq1, hqf1, hq2, hqf2, hq3, hqf3, hq4, hqf4, hq5, hqf5, hq6, hqf6, hq7, hqf7⟩ := cells8 (blk_below HX1.out HB3.out)
 go_wp2
 go_ret
 exact ⟨by (rw [show (x.f1.toList == ([] : List UInt8)) = x.f1.toList.isEmpty by cases x.f1.toList <;> rfl]; rfl), below_step HB1.out HB3.out⟩
set_option maxHeartbeats 16000000 in
set_option maxRecDepth 100000 in
theorem rtext_7 (k : Nat) (x : S24) (A : Option Addr) (c : Nat) (i1 : Int) (i2 i3 p q r : Bool) (w : World) (hI : refInt.f k x.f1 = some (i1, i2, i3)) (hT : glossaryref07_Type.f k x.f1 = some (p, q)) (h : (some (p && q)) = some r) :
  Calls Tryz.prog 27 #[.agg #[.int .i64 7, .string x.f1, .int .i64 x.f2, .int .i64 x.f3, .int .i64 x.f4, .int .i64 x.f5, .string x.f6, .slice A x.f7.length c]] w fun e w' => e = .returned (.bool r) ∧ Below w.heap.size w w' := by
 have HI := Aside0.mk hI
 have HT := Aside0.mk hT
 clear hI hT
 obtain rfl := Option.some.inj h
 clear h
 cases p
 ·skip
  go_enter Tryz.func27, Tryz.ntmps27
  go_wp2_with (first | ((with_reducible refine gate_dst (N := 1) rfl ?_); refine box_event ?hg (N := 1) ?hd (cs := #[.int .i64 7, .string x.f1, .int .i64 x.f2, .int .i64 x.f3, .int .i64 x.f4, .int .i64 x.f5, .string x.f6, .slice A x.f7.length c]) (t := 24) ?hr ?_; (case hd => rfl); (case hg => rfl); (case hr => first | (go_simp; done) | (go_simp; rfl)); intro gx hg w1 hbox hb; have HB1 := Aside0.mk hb; have HX1 := Aside0.mk hbox; obtain ⟨hq0, hqf0, hq1, hqf1, hq2, hqf2, hq3, hqf3, hq4, hqf4, hq5, hqf5, hq6, hqf6, hq7, hqf7⟩ := cells8 hbox; clear hbox hb hg))
  refine (refInt.calls k x.f1 i1 i2 i3 _ HI.out).mono ?_
  rintro e w2 ⟨rfl, hb⟩
  have HB2 := Aside0.mk hb
  clear hb
  clear hq0 hqf0 hq1 hqf1 hq2 hqf2 hq3 hqf3 hq4 hqf4 hq5 hqf5 hq6 hqf6 hq7 hqf7
  obtain ⟨hq0, hqf0, hq1, hqf1, hq2, hqf2, hq3, hqf3, hq4, hqf4, hq5, hqf5, hq6, hqf6, hq7, hqf7⟩ := cells8 (blk_below HX1.out HB2.out)
  go_wp2_with (fail)
  refine (glossaryref07_Type.calls k x.f1 _ q _ HT.out).mono ?_
  rintro e w3 ⟨rfl, hb⟩
  have HB3 := Aside0.mk (below_step HB2.out hb)
  clear hb
  clear hq0 hqf0 hq1 hqf1 hq2 hqf2 hq3 hqf3 hq4 hqf4 hq5 hqf5 hq6 hqf6 hq7 hqf7
  obtain ⟨hq0, hqf0, hq1, hqf1, hq2, hqf2, hq3, hqf3, hq4, hqf4, hq5, hqf5, hq6, hqf6, hq7, hqf7⟩ := cells8 (blk_below HX1.out HB3.out)
  go_wp2
  go_ret
  exact ⟨rfl, below_step HB1.out HB3.out⟩
 ·skip
  go_enter Tryz.func27, Tryz.ntmps27
  go_wp2_with (first | ((with_reducible refine gate_dst (N := 1) rfl ?_); refine box_event ?hg (N := 1) ?hd (cs := #[.int .i64 7, .string x.f1, .int .i64 x.f2, .int .i64 x.f3, .int .i64 x.f4, .int .i64 x.f5, .string x.f6, .slice A x.f7.length c]) (t := 24) ?hr ?_; (case hd => rfl); (case hg => rfl); (case hr => first | (go_simp; done) | (go_simp; rfl)); intro gx hg w1 hbox hb; have HB1 := Aside0.mk hb; have HX1 := Aside0.mk hbox; obtain ⟨hq0, hqf0, hq1, hqf1, hq2, hqf2, hq3, hqf3, hq4, hqf4, hq5, hqf5, hq6, hqf6, hq7, hqf7⟩ := cells8 hbox; clear hbox hb hg))
  refine (refInt.calls k x.f1 i1 i2 i3 _ HI.out).mono ?_
  rintro e w2 ⟨rfl, hb⟩
  have HB2 := Aside0.mk hb
  clear hb
  clear hq0 hqf0 hq1 hqf1 hq2 hqf2 hq3 hqf3 hq4 hqf4 hq5 hqf5 hq6 hqf6 hq7 hqf7
  obtain ⟨hq0, hqf0, hq1, hqf1, hq2, hqf2, hq3, hqf3, hq4, hqf4, hq5, hqf5, hq6, hqf6, hq7, hqf7⟩ := cells8 (blk_below HX1.out HB2.out)
  go_wp2_with (fail)
  refine (glossaryref07_Type.calls k x.f1 _ q _ HT.out).mono ?_
  rintro e w3 ⟨rfl, hb⟩
  have HB3 := Aside0.mk (below_step HB2.out hb)
  clear hb
  clear hq0 hqf0 hq1 hqf1 hq2 hqf2 hq3 hqf3 hq4 hqf4 hq5 hqf5 hq6 hqf6 hq7 hqf7
  obtain ⟨hq0, hqf0, hq1, hqf1, hq2, hqf2, hq3, hqf3, hq4, hqf4, hq5, hqf5, hq6, hqf6, hq7, hqf7⟩ := cells8 (blk_below HX1.out HB3.out)
  go_wp2
  go_ret
  exact ⟨rfl, below_step HB1.out HB3.out⟩
set_option maxHeartbeats 16000000 in
set_option maxRecDepth 100000 in
theorem rtext_12 (k : Nat) (x : S24) (A : Option Addr) (c : Nat) (i1 : Int) (i2 i3 p q r : Bool) (w : World) (hI : refInt.f k x.f1 = some (i1, i2, i3)) (hT : glossaryref07_Type.f k x.f1 = some (p, q)) (h : (some (x.f1.toList == ([] : List UInt8))) = some r) :
  Calls Tryz.prog 27 #[.agg #[.int .i64 12, .string x.f1, .int .i64 x.f2, .int .i64 x.f3, .int .i64 x.f4, .int .i64 x.f5, .string x.f6, .slice A x.f7.length c]] w fun e w' => e = .returned (.bool r) ∧ Below w.heap.size w w' := by
 have HI := Aside0.mk hI
 have HT := Aside0.mk hT
 clear hI hT
 obtain rfl := Option.some.inj h
 clear h
 go_enter Tryz.func27, Tryz.ntmps27
 go_wp2_with (first | ((with_reducible refine gate_dst (N := 1) rfl ?_); refine box_event ?hg (N := 1) ?hd (cs := #[.int .i64 12, .string x.f1, .int .i64 x.f2, .int .i64 x.f3, .int .i64 x.f4, .int .i64 x.f5, .string x.f6, .slice A x.f7.length c]) (t := 24) ?hr ?_; (case hd => rfl); (case hg => rfl); (case hr => first | (go_simp; done) | (go_simp; rfl)); intro gx hg w1 hbox hb; have HB1 := Aside0.mk hb; have HX1 := Aside0.mk hbox; obtain ⟨hq0, hqf0, hq1, hqf1, hq2, hqf2, hq3, hqf3, hq4, hqf4, hq5, hqf5, hq6, hqf6, hq7, hqf7⟩ := cells8 hbox; clear hbox hb hg))
 refine (refInt.calls k x.f1 i1 i2 i3 _ HI.out).mono ?_
 rintro e w2 ⟨rfl, hb⟩
 have HB2 := Aside0.mk hb
 clear hb
 clear hq0 hqf0 hq1 hqf1 hq2 hqf2 hq3 hqf3 hq4 hqf4 hq5 hqf5 hq6 hqf6 hq7 hqf7
 obtain ⟨hq0, hqf0, hq1, hqf1, hq2, hqf2, hq3, hqf3, hq4, hqf4, hq5, hqf5, hq6, hqf6, hq7, hqf7⟩ := cells8 (blk_below HX1.out HB2.out)
 go_wp2_with (fail)
 refine (glossaryref07_Type.calls k x.f1 p q _ HT.out).mono ?_
 rintro e w3 ⟨rfl, hb⟩
 have HB3 := Aside0.mk (below_step HB2.out hb)
 clear hb
 clear hq0 hqf0 hq1 hqf1 hq2 hqf2 hq3 hqf3 hq4 hqf4 hq5 hqf5 hq6 hqf6 hq7 hqf7
 obtain ⟨hq0, hqf0, hq1, hqf1, hq2, hqf2, hq3, hqf3, hq4, hqf4, hq5, hqf5, hq6, hqf6, hq7, hqf7⟩ := cells8 (blk_below HX1.out HB3.out)
 go_wp2
 go_ret
 exact ⟨by (rw [show (x.f1.toList == ([] : List UInt8)) = x.f1.toList.isEmpty by cases x.f1.toList <;> rfl]; rfl), below_step HB1.out HB3.out⟩
set_option maxHeartbeats 16000000 in
set_option maxRecDepth 100000 in
theorem rtext_13 (k : Nat) (x : S24) (A : Option Addr) (c : Nat) (i1 : Int) (i2 i3 p q r : Bool) (w : World) (hI : refInt.f k x.f1 = some (i1, i2, i3)) (hT : glossaryref07_Type.f k x.f1 = some (p, q)) (h : (some (x.f1.toList == ([] : List UInt8))) = some r) :
  Calls Tryz.prog 27 #[.agg #[.int .i64 13, .string x.f1, .int .i64 x.f2, .int .i64 x.f3, .int .i64 x.f4, .int .i64 x.f5, .string x.f6, .slice A x.f7.length c]] w fun e w' => e = .returned (.bool r) ∧ Below w.heap.size w w' := by
 have HI := Aside0.mk hI
 have HT := Aside0.mk hT
 clear hI hT
 obtain rfl := Option.some.inj h
 clear h
 go_enter Tryz.func27, Tryz.ntmps27
 go_wp2_with (first | ((with_reducible refine gate_dst (N := 1) rfl ?_); refine box_event ?hg (N := 1) ?hd (cs := #[.int .i64 13, .string x.f1, .int .i64 x.f2, .int .i64 x.f3, .int .i64 x.f4, .int .i64 x.f5, .string x.f6, .slice A x.f7.length c]) (t := 24) ?hr ?_; (case hd => rfl); (case hg => rfl); (case hr => first | (go_simp; done) | (go_simp; rfl)); intro gx hg w1 hbox hb; have HB1 := Aside0.mk hb; have HX1 := Aside0.mk hbox; obtain ⟨hq0, hqf0, hq1, hqf1, hq2, hqf2, hq3, hqf3, hq4, hqf4, hq5, hqf5, hq6, hqf6, hq7, hqf7⟩ := cells8 hbox; clear hbox hb hg))
 refine (refInt.calls k x.f1 i1 i2 i3 _ HI.out).mono ?_
 rintro e w2 ⟨rfl, hb⟩
 have HB2 := Aside0.mk hb
 clear hb
 clear hq0 hqf0 hq1 hqf1 hq2 hqf2 hq3 hqf3 hq4 hqf4 hq5 hqf5 hq6 hqf6 hq7 hqf7
 obtain ⟨hq0, hqf0, hq1, hqf1, hq2, hqf2, hq3, hqf3, hq4, hqf4, hq5, hqf5, hq6, hqf6, hq7, hqf7⟩ := cells8 (blk_below HX1.out HB2.out)
 go_wp2_with (fail)
 refine (glossaryref07_Type.calls k x.f1 p q _ HT.out).mono ?_
 rintro e w3 ⟨rfl, hb⟩
 have HB3 := Aside0.mk (below_step HB2.out hb)
 clear hb
 clear hq0 hqf0 hq1 hqf1 hq2 hqf2 hq3 hqf3 hq4 hqf4 hq5 hqf5 hq6 hqf6 hq7 hqf7
 obtain ⟨hq0, hqf0, hq1, hqf1, hq2, hqf2, hq3, hqf3, hq4, hqf4, hq5, hqf5, hq6, hqf6, hq7, hqf7⟩ := cells8 (blk_below HX1.out HB3.out)
 go_wp2
 go_ret
 exact ⟨by (rw [show (x.f1.toList == ([] : List UInt8)) = x.f1.toList.isEmpty by cases x.f1.toList <;> rfl]; rfl), below_step HB1.out HB3.out⟩
set_option maxHeartbeats 16000000 in
set_option maxRecDepth 100000 in
theorem rtext_14 (k : Nat) (x : S24) (A : Option Addr) (c : Nat) (i1 : Int) (i2 i3 p q r : Bool) (w : World) (hI : refInt.f k x.f1 = some (i1, i2, i3)) (hT : glossaryref07_Type.f k x.f1 = some (p, q)) (h : (some (x.f1.toList == ([] : List UInt8))) = some r) :
  Calls Tryz.prog 27 #[.agg #[.int .i64 14, .string x.f1, .int .i64 x.f2, .int .i64 x.f3, .int .i64 x.f4, .int .i64 x.f5, .string x.f6, .slice A x.f7.length c]] w fun e w' => e = .returned (.bool r) ∧ Below w.heap.size w w' := by
 have HI := Aside0.mk hI
 have HT := Aside0.mk hT
 clear hI hT
 obtain rfl := Option.some.inj h
 clear h
 go_enter Tryz.func27, Tryz.ntmps27
 go_wp2_with (first | ((with_reducible refine gate_dst (N := 1) rfl ?_); refine box_event ?hg (N := 1) ?hd (cs := #[.int .i64 14, .string x.f1, .int .i64 x.f2, .int .i64 x.f3, .int .i64 x.f4, .int .i64 x.f5, .string x.f6, .slice A x.f7.length c]) (t := 24) ?hr ?_; (case hd => rfl); (case hg => rfl); (case hr => first | (go_simp; done) | (go_simp; rfl)); intro gx hg w1 hbox hb; have HB1 := Aside0.mk hb; have HX1 := Aside0.mk hbox; obtain ⟨hq0, hqf0, hq1, hqf1, hq2, hqf2, hq3, hqf3, hq4, hqf4, hq5, hqf5, hq6, hqf6, hq7, hqf7⟩ := cells8 hbox; clear hbox hb hg))
 refine (refInt.calls k x.f1 i1 i2 i3 _ HI.out).mono ?_
 rintro e w2 ⟨rfl, hb⟩
 have HB2 := Aside0.mk hb
 clear hb
 clear hq0 hqf0 hq1 hqf1 hq2 hqf2 hq3 hqf3 hq4 hqf4 hq5 hqf5 hq6 hqf6 hq7 hqf7
 obtain ⟨hq0, hqf0, hq1, hqf1, hq2, hqf2, hq3, hqf3, hq4, hqf4, hq5, hqf5, hq6, hqf6, hq7, hqf7⟩ := cells8 (blk_below HX1.out HB2.out)
 go_wp2_with (fail)
 refine (glossaryref07_Type.calls k x.f1 p q _ HT.out).mono ?_
 rintro e w3 ⟨rfl, hb⟩
 have HB3 := Aside0.mk (below_step HB2.out hb)
 clear hb
 clear hq0 hqf0 hq1 hqf1 hq2 hqf2 hq3 hqf3 hq4 hqf4 hq5 hqf5 hq6 hqf6 hq7 hqf7
 obtain ⟨hq0, hqf0, hq1, hqf1, hq2, hqf2, hq3, hqf3, hq4, hqf4, hq5, hqf5, hq6, hqf6, hq7, hqf7⟩ := cells8 (blk_below HX1.out HB3.out)
 go_wp2
 go_ret
 exact ⟨by (rw [show (x.f1.toList == ([] : List UInt8)) = x.f1.toList.isEmpty by cases x.f1.toList <;> rfl]; rfl), below_step HB1.out HB3.out⟩
set_option maxHeartbeats 16000000 in
set_option maxRecDepth 100000 in
theorem rtext_16 (k : Nat) (x : S24) (A : Option Addr) (c : Nat) (i1 : Int) (i2 i3 p q r : Bool) (w : World) (hI : refInt.f k x.f1 = some (i1, i2, i3)) (hT : glossaryref07_Type.f k x.f1 = some (p, q)) (h : ((glossaryref05_Ident.f k x.f1).map fun b => b && (!(x.f1.toList == ([111, 112, 116, 105, 111, 110] : List UInt8)) && !(x.f1.toList == ([114, 101, 115, 101, 114, 118, 101, 100] : List UInt8)))) = some r) :
  Calls Tryz.prog 27 #[.agg #[.int .i64 16, .string x.f1, .int .i64 x.f2, .int .i64 x.f3, .int .i64 x.f4, .int .i64 x.f5, .string x.f6, .slice A x.f7.length c]] w fun e w' => e = .returned (.bool r) ∧ Below w.heap.size w w' := by
 have HI := Aside0.mk hI
 have HT := Aside0.mk hT
 clear hI hT
 obtain ⟨b, hb0, hr⟩ := Option.map_eq_some_iff.mp h
 subst hr
 have H := Aside0.mk hb0
 clear h hb0
 cases b
 ·skip
  go_enter Tryz.func27, Tryz.ntmps27
  go_wp2_with (first | ((with_reducible refine gate_dst (N := 1) rfl ?_); refine box_event ?hg (N := 1) ?hd (cs := #[.int .i64 16, .string x.f1, .int .i64 x.f2, .int .i64 x.f3, .int .i64 x.f4, .int .i64 x.f5, .string x.f6, .slice A x.f7.length c]) (t := 24) ?hr ?_; (case hd => rfl); (case hg => rfl); (case hr => first | (go_simp; done) | (go_simp; rfl)); intro gx hg w1 hbox hb; have HB1 := Aside0.mk hb; have HX1 := Aside0.mk hbox; obtain ⟨hq0, hqf0, hq1, hqf1, hq2, hqf2, hq3, hqf3, hq4, hqf4, hq5, hqf5, hq6, hqf6, hq7, hqf7⟩ := cells8 hbox; clear hbox hb hg))
  refine (refInt.calls k x.f1 i1 i2 i3 _ HI.out).mono ?_
  rintro e w2 ⟨rfl, hb⟩
  have HB2 := Aside0.mk hb
  clear hb
  clear hq0 hqf0 hq1 hqf1 hq2 hqf2 hq3 hqf3 hq4 hqf4 hq5 hqf5 hq6 hqf6 hq7 hqf7
  obtain ⟨hq0, hqf0, hq1, hqf1, hq2, hqf2, hq3, hqf3, hq4, hqf4, hq5, hqf5, hq6, hqf6, hq7, hqf7⟩ := cells8 (blk_below HX1.out HB2.out)
  go_wp2_with (fail)
  refine (glossaryref07_Type.calls k x.f1 p q _ HT.out).mono ?_
  rintro e w3 ⟨rfl, hb⟩
  have HB3 := Aside0.mk (below_step HB2.out hb)
  clear hb
  clear hq0 hqf0 hq1 hqf1 hq2 hqf2 hq3 hqf3 hq4 hqf4 hq5 hqf5 hq6 hqf6 hq7 hqf7
  obtain ⟨hq0, hqf0, hq1, hqf1, hq2, hqf2, hq3, hqf3, hq4, hqf4, hq5, hqf5, hq6, hqf6, hq7, hqf7⟩ := cells8 (blk_below HX1.out HB3.out)
  go_wp2_with (fail)
  refine (glossaryref05_Ident.calls k x.f1 _ _ H.out).mono ?_
  rintro e w4 ⟨rfl, hb⟩
  have HB4 := Aside0.mk (below_step HB3.out (drawn_below hb))
  clear hb
  go_wp2
  go_ret
  exact ⟨rfl, below_step HB1.out HB4.out⟩
 ·cases ho : (x.f1.toList == ([111, 112, 116, 105, 111, 110] : List UInt8))
  ·have ho2 : (x.f1.toList != ([111, 112, 116, 105, 111, 110] : List UInt8)) = true := by (rw [bne, ho]; rfl)
   go_enter Tryz.func27, Tryz.ntmps27
   go_wp2_with (first | ((with_reducible refine gate_dst (N := 1) rfl ?_); refine box_event ?hg (N := 1) ?hd (cs := #[.int .i64 16, .string x.f1, .int .i64 x.f2, .int .i64 x.f3, .int .i64 x.f4, .int .i64 x.f5, .string x.f6, .slice A x.f7.length c]) (t := 24) ?hr ?_; (case hd => rfl); (case hg => rfl); (case hr => first | (go_simp; done) | (go_simp; rfl)); intro gx hg w1 hbox hb; have HB1 := Aside0.mk hb; have HX1 := Aside0.mk hbox; obtain ⟨hq0, hqf0, hq1, hqf1, hq2, hqf2, hq3, hqf3, hq4, hqf4, hq5, hqf5, hq6, hqf6, hq7, hqf7⟩ := cells8 hbox; clear hbox hb hg))
   refine (refInt.calls k x.f1 i1 i2 i3 _ HI.out).mono ?_
   rintro e w2 ⟨rfl, hb⟩
   have HB2 := Aside0.mk hb
   clear hb
   clear hq0 hqf0 hq1 hqf1 hq2 hqf2 hq3 hqf3 hq4 hqf4 hq5 hqf5 hq6 hqf6 hq7 hqf7
   obtain ⟨hq0, hqf0, hq1, hqf1, hq2, hqf2, hq3, hqf3, hq4, hqf4, hq5, hqf5, hq6, hqf6, hq7, hqf7⟩ := cells8 (blk_below HX1.out HB2.out)
   go_wp2_with (fail)
   refine (glossaryref07_Type.calls k x.f1 p q _ HT.out).mono ?_
   rintro e w3 ⟨rfl, hb⟩
   have HB3 := Aside0.mk (below_step HB2.out hb)
   clear hb
   clear hq0 hqf0 hq1 hqf1 hq2 hqf2 hq3 hqf3 hq4 hqf4 hq5 hqf5 hq6 hqf6 hq7 hqf7
   obtain ⟨hq0, hqf0, hq1, hqf1, hq2, hqf2, hq3, hqf3, hq4, hqf4, hq5, hqf5, hq6, hqf6, hq7, hqf7⟩ := cells8 (blk_below HX1.out HB3.out)
   go_wp2_with (fail)
   refine (glossaryref05_Ident.calls k x.f1 _ _ H.out).mono ?_
   rintro e w4 ⟨rfl, hb⟩
   have HB4 := Aside0.mk (below_step HB3.out (drawn_below hb))
   clear hb
   clear hq0 hqf0 hq1 hqf1 hq2 hqf2 hq3 hqf3 hq4 hqf4 hq5 hqf5 hq6 hqf6 hq7 hqf7
   obtain ⟨hq0, hqf0, hq1, hqf1, hq2, hqf2, hq3, hqf3, hq4, hqf4, hq5, hqf5, hq6, hqf6, hq7, hqf7⟩ := cells8 (blk_below HX1.out HB4.out)
   go_wp2
   go_ret
   exact ⟨rfl, below_step HB1.out HB4.out⟩
  ·have ho2 : (x.f1.toList != ([111, 112, 116, 105, 111, 110] : List UInt8)) = false := by (rw [bne, ho]; rfl)
   go_enter Tryz.func27, Tryz.ntmps27
   go_wp2_with (first | ((with_reducible refine gate_dst (N := 1) rfl ?_); refine box_event ?hg (N := 1) ?hd (cs := #[.int .i64 16, .string x.f1, .int .i64 x.f2, .int .i64 x.f3, .int .i64 x.f4, .int .i64 x.f5, .string x.f6, .slice A x.f7.length c]) (t := 24) ?hr ?_; (case hd => rfl); (case hg => rfl); (case hr => first | (go_simp; done) | (go_simp; rfl)); intro gx hg w1 hbox hb; have HB1 := Aside0.mk hb; have HX1 := Aside0.mk hbox; obtain ⟨hq0, hqf0, hq1, hqf1, hq2, hqf2, hq3, hqf3, hq4, hqf4, hq5, hqf5, hq6, hqf6, hq7, hqf7⟩ := cells8 hbox; clear hbox hb hg))
   refine (refInt.calls k x.f1 i1 i2 i3 _ HI.out).mono ?_
   rintro e w2 ⟨rfl, hb⟩
   have HB2 := Aside0.mk hb
   clear hb
   clear hq0 hqf0 hq1 hqf1 hq2 hqf2 hq3 hqf3 hq4 hqf4 hq5 hqf5 hq6 hqf6 hq7 hqf7
   obtain ⟨hq0, hqf0, hq1, hqf1, hq2, hqf2, hq3, hqf3, hq4, hqf4, hq5, hqf5, hq6, hqf6, hq7, hqf7⟩ := cells8 (blk_below HX1.out HB2.out)
   go_wp2_with (fail)
   refine (glossaryref07_Type.calls k x.f1 p q _ HT.out).mono ?_
   rintro e w3 ⟨rfl, hb⟩
   have HB3 := Aside0.mk (below_step HB2.out hb)
   clear hb
   clear hq0 hqf0 hq1 hqf1 hq2 hqf2 hq3 hqf3 hq4 hqf4 hq5 hqf5 hq6 hqf6 hq7 hqf7
   obtain ⟨hq0, hqf0, hq1, hqf1, hq2, hqf2, hq3, hqf3, hq4, hqf4, hq5, hqf5, hq6, hqf6, hq7, hqf7⟩ := cells8 (blk_below HX1.out HB3.out)
   go_wp2_with (fail)
   refine (glossaryref05_Ident.calls k x.f1 _ _ H.out).mono ?_
   rintro e w4 ⟨rfl, hb⟩
   have HB4 := Aside0.mk (below_step HB3.out (drawn_below hb))
   clear hb
   clear hq0 hqf0 hq1 hqf1 hq2 hqf2 hq3 hqf3 hq4 hqf4 hq5 hqf5 hq6 hqf6 hq7 hqf7
   obtain ⟨hq0, hqf0, hq1, hqf1, hq2, hqf2, hq3, hqf3, hq4, hqf4, hq5, hqf5, hq6, hqf6, hq7, hqf7⟩ := cells8 (blk_below HX1.out HB4.out)
   go_wp2
   go_ret
   exact ⟨rfl, below_step HB1.out HB4.out⟩
set_option maxHeartbeats 16000000 in
set_option maxRecDepth 100000 in
theorem rtext_18 (k : Nat) (x : S24) (A : Option Addr) (c : Nat) (i1 : Int) (i2 i3 p q r : Bool) (w : World) (hI : refInt.f k x.f1 = some (i1, i2, i3)) (hT : glossaryref07_Type.f k x.f1 = some (p, q)) (h : (some p) = some r) :
  Calls Tryz.prog 27 #[.agg #[.int .i64 18, .string x.f1, .int .i64 x.f2, .int .i64 x.f3, .int .i64 x.f4, .int .i64 x.f5, .string x.f6, .slice A x.f7.length c]] w fun e w' => e = .returned (.bool r) ∧ Below w.heap.size w w' := by
 have HI := Aside0.mk hI
 have HT := Aside0.mk hT
 clear hI hT
 obtain rfl := Option.some.inj h
 clear h
 go_enter Tryz.func27, Tryz.ntmps27
 go_wp2_with (first | ((with_reducible refine gate_dst (N := 1) rfl ?_); refine box_event ?hg (N := 1) ?hd (cs := #[.int .i64 18, .string x.f1, .int .i64 x.f2, .int .i64 x.f3, .int .i64 x.f4, .int .i64 x.f5, .string x.f6, .slice A x.f7.length c]) (t := 24) ?hr ?_; (case hd => rfl); (case hg => rfl); (case hr => first | (go_simp; done) | (go_simp; rfl)); intro gx hg w1 hbox hb; have HB1 := Aside0.mk hb; have HX1 := Aside0.mk hbox; obtain ⟨hq0, hqf0, hq1, hqf1, hq2, hqf2, hq3, hqf3, hq4, hqf4, hq5, hqf5, hq6, hqf6, hq7, hqf7⟩ := cells8 hbox; clear hbox hb hg))
 refine (refInt.calls k x.f1 i1 i2 i3 _ HI.out).mono ?_
 rintro e w2 ⟨rfl, hb⟩
 have HB2 := Aside0.mk hb
 clear hb
 clear hq0 hqf0 hq1 hqf1 hq2 hqf2 hq3 hqf3 hq4 hqf4 hq5 hqf5 hq6 hqf6 hq7 hqf7
 obtain ⟨hq0, hqf0, hq1, hqf1, hq2, hqf2, hq3, hqf3, hq4, hqf4, hq5, hqf5, hq6, hqf6, hq7, hqf7⟩ := cells8 (blk_below HX1.out HB2.out)
 go_wp2_with (fail)
 refine (glossaryref07_Type.calls k x.f1 p q _ HT.out).mono ?_
 rintro e w3 ⟨rfl, hb⟩
 have HB3 := Aside0.mk (below_step HB2.out hb)
 clear hb
 clear hq0 hqf0 hq1 hqf1 hq2 hqf2 hq3 hqf3 hq4 hqf4 hq5 hqf5 hq6 hqf6 hq7 hqf7
 obtain ⟨hq0, hqf0, hq1, hqf1, hq2, hqf2, hq3, hqf3, hq4, hqf4, hq5, hqf5, hq6, hqf6, hq7, hqf7⟩ := cells8 (blk_below HX1.out HB3.out)
 go_wp2
 go_ret
 exact ⟨rfl, below_step HB1.out HB3.out⟩
set_option maxHeartbeats 16000000 in
set_option maxRecDepth 100000 in
theorem rtext_19 (k : Nat) (x : S24) (A : Option Addr) (c : Nat) (i1 : Int) (i2 i3 p q r : Bool) (w : World) (hI : refInt.f k x.f1 = some (i1, i2, i3)) (hT : glossaryref07_Type.f k x.f1 = some (p, q)) (h : (if (x.f4 == 1) = true then glossaryref07_ref.f k x.f1 else glossaryref05_Ident.f k x.f1) = some r) :
  Calls Tryz.prog 27 #[.agg #[.int .i64 19, .string x.f1, .int .i64 x.f2, .int .i64 x.f3, .int .i64 x.f4, .int .i64 x.f5, .string x.f6, .slice A x.f7.length c]] w fun e w' => e = .returned (.bool r) ∧ Below w.heap.size w w' := by
 have HI := Aside0.mk hI
 have HT := Aside0.mk hT
 clear hI hT
 cases h4 : (x.f4 == 1)
 ·rw [if_neg (by rw [h4]; decide)] at h
  have H := Aside0.mk h
  clear h
  go_enter Tryz.func27, Tryz.ntmps27
  go_wp2_with (first | ((with_reducible refine gate_dst (N := 1) rfl ?_); refine box_event ?hg (N := 1) ?hd (cs := #[.int .i64 19, .string x.f1, .int .i64 x.f2, .int .i64 x.f3, .int .i64 x.f4, .int .i64 x.f5, .string x.f6, .slice A x.f7.length c]) (t := 24) ?hr ?_; (case hd => rfl); (case hg => rfl); (case hr => first | (go_simp; done) | (go_simp; rfl)); intro gx hg w1 hbox hb; have HB1 := Aside0.mk hb; have HX1 := Aside0.mk hbox; obtain ⟨hq0, hqf0, hq1, hqf1, hq2, hqf2, hq3, hqf3, hq4, hqf4, hq5, hqf5, hq6, hqf6, hq7, hqf7⟩ := cells8 hbox; clear hbox hb hg))
  refine (refInt.calls k x.f1 i1 i2 i3 _ HI.out).mono ?_
  rintro e w2 ⟨rfl, hb⟩
  have HB2 := Aside0.mk hb
  clear hb
  clear hq0 hqf0 hq1 hqf1 hq2 hqf2 hq3 hqf3 hq4 hqf4 hq5 hqf5 hq6 hqf6 hq7 hqf7
  obtain ⟨hq0, hqf0, hq1, hqf1, hq2, hqf2, hq3, hqf3, hq4, hqf4, hq5, hqf5, hq6, hqf6, hq7, hqf7⟩ := cells8 (blk_below HX1.out HB2.out)
  go_wp2_with (fail)
  refine (glossaryref07_Type.calls k x.f1 p q _ HT.out).mono ?_
  rintro e w3 ⟨rfl, hb⟩
  have HB3 := Aside0.mk (below_step HB2.out hb)
  clear hb
  clear hq0 hqf0 hq1 hqf1 hq2 hqf2 hq3 hqf3 hq4 hqf4 hq5 hqf5 hq6 hqf6 hq7 hqf7
  obtain ⟨hq0, hqf0, hq1, hqf1, hq2, hqf2, hq3, hqf3, hq4, hqf4, hq5, hqf5, hq6, hqf6, hq7, hqf7⟩ := cells8 (blk_below HX1.out HB3.out)
  go_wp2_with (fail)
  refine (glossaryref05_Ident.calls k x.f1 r _ H.out).mono ?_
  rintro e w4 ⟨rfl, hb⟩
  have HB4 := Aside0.mk (below_step HB3.out (drawn_below hb))
  clear hb
  go_wp2
  go_ret
  exact ⟨rfl, below_step HB1.out HB4.out⟩
 ·rw [if_pos h4] at h
  have H := Aside0.mk h
  clear h
  go_enter Tryz.func27, Tryz.ntmps27
  go_wp2_with (first | ((with_reducible refine gate_dst (N := 1) rfl ?_); refine box_event ?hg (N := 1) ?hd (cs := #[.int .i64 19, .string x.f1, .int .i64 x.f2, .int .i64 x.f3, .int .i64 x.f4, .int .i64 x.f5, .string x.f6, .slice A x.f7.length c]) (t := 24) ?hr ?_; (case hd => rfl); (case hg => rfl); (case hr => first | (go_simp; done) | (go_simp; rfl)); intro gx hg w1 hbox hb; have HB1 := Aside0.mk hb; have HX1 := Aside0.mk hbox; obtain ⟨hq0, hqf0, hq1, hqf1, hq2, hqf2, hq3, hqf3, hq4, hqf4, hq5, hqf5, hq6, hqf6, hq7, hqf7⟩ := cells8 hbox; clear hbox hb hg))
  refine (refInt.calls k x.f1 i1 i2 i3 _ HI.out).mono ?_
  rintro e w2 ⟨rfl, hb⟩
  have HB2 := Aside0.mk hb
  clear hb
  clear hq0 hqf0 hq1 hqf1 hq2 hqf2 hq3 hqf3 hq4 hqf4 hq5 hqf5 hq6 hqf6 hq7 hqf7
  obtain ⟨hq0, hqf0, hq1, hqf1, hq2, hqf2, hq3, hqf3, hq4, hqf4, hq5, hqf5, hq6, hqf6, hq7, hqf7⟩ := cells8 (blk_below HX1.out HB2.out)
  go_wp2_with (fail)
  refine (glossaryref07_Type.calls k x.f1 p q _ HT.out).mono ?_
  rintro e w3 ⟨rfl, hb⟩
  have HB3 := Aside0.mk (below_step HB2.out hb)
  clear hb
  clear hq0 hqf0 hq1 hqf1 hq2 hqf2 hq3 hqf3 hq4 hqf4 hq5 hqf5 hq6 hqf6 hq7 hqf7
  obtain ⟨hq0, hqf0, hq1, hqf1, hq2, hqf2, hq3, hqf3, hq4, hqf4, hq5, hqf5, hq6, hqf6, hq7, hqf7⟩ := cells8 (blk_below HX1.out HB3.out)
  go_wp2_with (fail)
  refine (glossaryref07_ref.calls k x.f1 r _ H.out).mono ?_
  rintro e w4 ⟨rfl, hb⟩
  have HB4 := Aside0.mk (below_step HB3.out hb)
  clear hb
  go_wp2
  go_ret
  exact ⟨rfl, below_step HB1.out HB4.out⟩
set_option maxHeartbeats 16000000 in
set_option maxRecDepth 100000 in
theorem rtext_20 (k : Nat) (x : S24) (A : Option Addr) (c : Nat) (i1 : Int) (i2 i3 p q r : Bool) (w : World) (hI : refInt.f k x.f1 = some (i1, i2, i3)) (hT : glossaryref07_Type.f k x.f1 = some (p, q)) (h : (some i3) = some r) :
  Calls Tryz.prog 27 #[.agg #[.int .i64 20, .string x.f1, .int .i64 x.f2, .int .i64 x.f3, .int .i64 x.f4, .int .i64 x.f5, .string x.f6, .slice A x.f7.length c]] w fun e w' => e = .returned (.bool r) ∧ Below w.heap.size w w' := by
 have HI := Aside0.mk hI
 have HT := Aside0.mk hT
 clear hI hT
 obtain rfl := Option.some.inj h
 clear h
 go_enter Tryz.func27, Tryz.ntmps27
 go_wp2_with (first | ((with_reducible refine gate_dst (N := 1) rfl ?_); refine box_event ?hg (N := 1) ?hd (cs := #[.int .i64 20, .string x.f1, .int .i64 x.f2, .int .i64 x.f3, .int .i64 x.f4, .int .i64 x.f5, .string x.f6, .slice A x.f7.length c]) (t := 24) ?hr ?_; (case hd => rfl); (case hg => rfl); (case hr => first | (go_simp; done) | (go_simp; rfl)); intro gx hg w1 hbox hb; have HB1 := Aside0.mk hb; have HX1 := Aside0.mk hbox; obtain ⟨hq0, hqf0, hq1, hqf1, hq2, hqf2, hq3, hqf3, hq4, hqf4, hq5, hqf5, hq6, hqf6, hq7, hqf7⟩ := cells8 hbox; clear hbox hb hg))
 refine (refInt.calls k x.f1 i1 i2 i3 _ HI.out).mono ?_
 rintro e w2 ⟨rfl, hb⟩
 have HB2 := Aside0.mk hb
 clear hb
 clear hq0 hqf0 hq1 hqf1 hq2 hqf2 hq3 hqf3 hq4 hqf4 hq5 hqf5 hq6 hqf6 hq7 hqf7
 obtain ⟨hq0, hqf0, hq1, hqf1, hq2, hqf2, hq3, hqf3, hq4, hqf4, hq5, hqf5, hq6, hqf6, hq7, hqf7⟩ := cells8 (blk_below HX1.out HB2.out)
 go_wp2_with (fail)
 refine (glossaryref07_Type.calls k x.f1 p q _ HT.out).mono ?_
 rintro e w3 ⟨rfl, hb⟩
 have HB3 := Aside0.mk (below_step HB2.out hb)
 clear hb
 clear hq0 hqf0 hq1 hqf1 hq2 hqf2 hq3 hqf3 hq4 hqf4 hq5 hqf5 hq6 hqf6 hq7 hqf7
 obtain ⟨hq0, hqf0, hq1, hqf1, hq2, hqf2, hq3, hqf3, hq4, hqf4, hq5, hqf5, hq6, hqf6, hq7, hqf7⟩ := cells8 (blk_below HX1.out HB3.out)
 go_wp2
 go_ret
 exact ⟨rfl, below_step HB1.out HB3.out⟩
set_option maxHeartbeats 16000000 in
set_option maxRecDepth 100000 in
theorem rtext_22 (k : Nat) (x : S24) (A : Option Addr) (c : Nat) (i1 : Int) (i2 i3 p q r : Bool) (w : World) (hI : refInt.f k x.f1 = some (i1, i2, i3)) (hT : glossaryref07_Type.f k x.f1 = some (p, q)) (h : (some (decide (x.f1.size ≤ 10000))) = some r) :
  Calls Tryz.prog 27 #[.agg #[.int .i64 22, .string x.f1, .int .i64 x.f2, .int .i64 x.f3, .int .i64 x.f4, .int .i64 x.f5, .string x.f6, .slice A x.f7.length c]] w fun e w' => e = .returned (.bool r) ∧ Below w.heap.size w w' := by
 have HI := Aside0.mk hI
 have HT := Aside0.mk hT
 clear hI hT
 obtain rfl := Option.some.inj h
 clear h
 go_enter Tryz.func27, Tryz.ntmps27
 go_wp2_with (first | ((with_reducible refine gate_dst (N := 1) rfl ?_); refine box_event ?hg (N := 1) ?hd (cs := #[.int .i64 22, .string x.f1, .int .i64 x.f2, .int .i64 x.f3, .int .i64 x.f4, .int .i64 x.f5, .string x.f6, .slice A x.f7.length c]) (t := 24) ?hr ?_; (case hd => rfl); (case hg => rfl); (case hr => first | (go_simp; done) | (go_simp; rfl)); intro gx hg w1 hbox hb; have HB1 := Aside0.mk hb; have HX1 := Aside0.mk hbox; obtain ⟨hq0, hqf0, hq1, hqf1, hq2, hqf2, hq3, hqf3, hq4, hqf4, hq5, hqf5, hq6, hqf6, hq7, hqf7⟩ := cells8 hbox; clear hbox hb hg))
 refine (refInt.calls k x.f1 i1 i2 i3 _ HI.out).mono ?_
 rintro e w2 ⟨rfl, hb⟩
 have HB2 := Aside0.mk hb
 clear hb
 clear hq0 hqf0 hq1 hqf1 hq2 hqf2 hq3 hqf3 hq4 hqf4 hq5 hqf5 hq6 hqf6 hq7 hqf7
 obtain ⟨hq0, hqf0, hq1, hqf1, hq2, hqf2, hq3, hqf3, hq4, hqf4, hq5, hqf5, hq6, hqf6, hq7, hqf7⟩ := cells8 (blk_below HX1.out HB2.out)
 go_wp2_with (fail)
 refine (glossaryref07_Type.calls k x.f1 p q _ HT.out).mono ?_
 rintro e w3 ⟨rfl, hb⟩
 have HB3 := Aside0.mk (below_step HB2.out hb)
 clear hb
 clear hq0 hqf0 hq1 hqf1 hq2 hqf2 hq3 hqf3 hq4 hqf4 hq5 hqf5 hq6 hqf6 hq7 hqf7
 obtain ⟨hq0, hqf0, hq1, hqf1, hq2, hqf2, hq3, hqf3, hq4, hqf4, hq5, hqf5, hq6, hqf6, hq7, hqf7⟩ := cells8 (blk_below HX1.out HB3.out)
 go_wp2
 go_ret
 exact ⟨by (have : decide ((x.f1.size : Int) ≤ 10000) = decide (x.f1.size ≤ 10000) := by (rw [Bool.eq_iff_iff, decide_eq_true_eq, decide_eq_true_eq]; omega)); rw [← this]; rfl, below_step HB1.out HB3.out⟩
set_option maxHeartbeats 16000000 in
set_option maxRecDepth 100000 in
theorem rtext_23 (k : Nat) (x : S24) (A : Option Addr) (c : Nat) (i1 : Int) (i2 i3 p q r : Bool) (w : World) (hI : refInt.f k x.f1 = some (i1, i2, i3)) (hT : glossaryref07_Type.f k x.f1 = some (p, q)) (h : (some (x.f1.toList == ([] : List UInt8))) = some r) :
  Calls Tryz.prog 27 #[.agg #[.int .i64 23, .string x.f1, .int .i64 x.f2, .int .i64 x.f3, .int .i64 x.f4, .int .i64 x.f5, .string x.f6, .slice A x.f7.length c]] w fun e w' => e = .returned (.bool r) ∧ Below w.heap.size w w' := by
 have HI := Aside0.mk hI
 have HT := Aside0.mk hT
 clear hI hT
 obtain rfl := Option.some.inj h
 clear h
 go_enter Tryz.func27, Tryz.ntmps27
 go_wp2_with (first | ((with_reducible refine gate_dst (N := 1) rfl ?_); refine box_event ?hg (N := 1) ?hd (cs := #[.int .i64 23, .string x.f1, .int .i64 x.f2, .int .i64 x.f3, .int .i64 x.f4, .int .i64 x.f5, .string x.f6, .slice A x.f7.length c]) (t := 24) ?hr ?_; (case hd => rfl); (case hg => rfl); (case hr => first | (go_simp; done) | (go_simp; rfl)); intro gx hg w1 hbox hb; have HB1 := Aside0.mk hb; have HX1 := Aside0.mk hbox; obtain ⟨hq0, hqf0, hq1, hqf1, hq2, hqf2, hq3, hqf3, hq4, hqf4, hq5, hqf5, hq6, hqf6, hq7, hqf7⟩ := cells8 hbox; clear hbox hb hg))
 refine (refInt.calls k x.f1 i1 i2 i3 _ HI.out).mono ?_
 rintro e w2 ⟨rfl, hb⟩
 have HB2 := Aside0.mk hb
 clear hb
 clear hq0 hqf0 hq1 hqf1 hq2 hqf2 hq3 hqf3 hq4 hqf4 hq5 hqf5 hq6 hqf6 hq7 hqf7
 obtain ⟨hq0, hqf0, hq1, hqf1, hq2, hqf2, hq3, hqf3, hq4, hqf4, hq5, hqf5, hq6, hqf6, hq7, hqf7⟩ := cells8 (blk_below HX1.out HB2.out)
 go_wp2_with (fail)
 refine (glossaryref07_Type.calls k x.f1 p q _ HT.out).mono ?_
 rintro e w3 ⟨rfl, hb⟩
 have HB3 := Aside0.mk (below_step HB2.out hb)
 clear hb
 clear hq0 hqf0 hq1 hqf1 hq2 hqf2 hq3 hqf3 hq4 hqf4 hq5 hqf5 hq6 hqf6 hq7 hqf7
 obtain ⟨hq0, hqf0, hq1, hqf1, hq2, hqf2, hq3, hqf3, hq4, hqf4, hq5, hqf5, hq6, hqf6, hq7, hqf7⟩ := cells8 (blk_below HX1.out HB3.out)
 go_wp2
 go_ret
 exact ⟨by (rw [show (x.f1.toList == ([] : List UInt8)) = x.f1.toList.isEmpty by cases x.f1.toList <;> rfl]; rfl), below_step HB1.out HB3.out⟩
set_option maxHeartbeats 16000000 in
set_option maxRecDepth 100000 in
theorem rtext_24 (k : Nat) (x : S24) (A : Option Addr) (c : Nat) (i1 : Int) (i2 i3 p q r : Bool) (w : World) (hI : refInt.f k x.f1 = some (i1, i2, i3)) (hT : glossaryref07_Type.f k x.f1 = some (p, q)) (h : (if (x.f4 == 1) = true then glossaryref07_ref.f k x.f1 else glossaryref05_Ident.f k x.f1) = some r) :
  Calls Tryz.prog 27 #[.agg #[.int .i64 24, .string x.f1, .int .i64 x.f2, .int .i64 x.f3, .int .i64 x.f4, .int .i64 x.f5, .string x.f6, .slice A x.f7.length c]] w fun e w' => e = .returned (.bool r) ∧ Below w.heap.size w w' := by
 have HI := Aside0.mk hI
 have HT := Aside0.mk hT
 clear hI hT
 cases h4 : (x.f4 == 1)
 ·rw [if_neg (by rw [h4]; decide)] at h
  have H := Aside0.mk h
  clear h
  go_enter Tryz.func27, Tryz.ntmps27
  go_wp2_with (first | ((with_reducible refine gate_dst (N := 1) rfl ?_); refine box_event ?hg (N := 1) ?hd (cs := #[.int .i64 24, .string x.f1, .int .i64 x.f2, .int .i64 x.f3, .int .i64 x.f4, .int .i64 x.f5, .string x.f6, .slice A x.f7.length c]) (t := 24) ?hr ?_; (case hd => rfl); (case hg => rfl); (case hr => first | (go_simp; done) | (go_simp; rfl)); intro gx hg w1 hbox hb; have HB1 := Aside0.mk hb; have HX1 := Aside0.mk hbox; obtain ⟨hq0, hqf0, hq1, hqf1, hq2, hqf2, hq3, hqf3, hq4, hqf4, hq5, hqf5, hq6, hqf6, hq7, hqf7⟩ := cells8 hbox; clear hbox hb hg))
  refine (refInt.calls k x.f1 i1 i2 i3 _ HI.out).mono ?_
  rintro e w2 ⟨rfl, hb⟩
  have HB2 := Aside0.mk hb
  clear hb
  clear hq0 hqf0 hq1 hqf1 hq2 hqf2 hq3 hqf3 hq4 hqf4 hq5 hqf5 hq6 hqf6 hq7 hqf7
  obtain ⟨hq0, hqf0, hq1, hqf1, hq2, hqf2, hq3, hqf3, hq4, hqf4, hq5, hqf5, hq6, hqf6, hq7, hqf7⟩ := cells8 (blk_below HX1.out HB2.out)
  go_wp2_with (fail)
  refine (glossaryref07_Type.calls k x.f1 p q _ HT.out).mono ?_
  rintro e w3 ⟨rfl, hb⟩
  have HB3 := Aside0.mk (below_step HB2.out hb)
  clear hb
  clear hq0 hqf0 hq1 hqf1 hq2 hqf2 hq3 hqf3 hq4 hqf4 hq5 hqf5 hq6 hqf6 hq7 hqf7
  obtain ⟨hq0, hqf0, hq1, hqf1, hq2, hqf2, hq3, hqf3, hq4, hqf4, hq5, hqf5, hq6, hqf6, hq7, hqf7⟩ := cells8 (blk_below HX1.out HB3.out)
  go_wp2_with (fail)
  refine (glossaryref05_Ident.calls k x.f1 r _ H.out).mono ?_
  rintro e w4 ⟨rfl, hb⟩
  have HB4 := Aside0.mk (below_step HB3.out (drawn_below hb))
  clear hb
  go_wp2
  go_ret
  exact ⟨rfl, below_step HB1.out HB4.out⟩
 ·rw [if_pos h4] at h
  have H := Aside0.mk h
  clear h
  go_enter Tryz.func27, Tryz.ntmps27
  go_wp2_with (first | ((with_reducible refine gate_dst (N := 1) rfl ?_); refine box_event ?hg (N := 1) ?hd (cs := #[.int .i64 24, .string x.f1, .int .i64 x.f2, .int .i64 x.f3, .int .i64 x.f4, .int .i64 x.f5, .string x.f6, .slice A x.f7.length c]) (t := 24) ?hr ?_; (case hd => rfl); (case hg => rfl); (case hr => first | (go_simp; done) | (go_simp; rfl)); intro gx hg w1 hbox hb; have HB1 := Aside0.mk hb; have HX1 := Aside0.mk hbox; obtain ⟨hq0, hqf0, hq1, hqf1, hq2, hqf2, hq3, hqf3, hq4, hqf4, hq5, hqf5, hq6, hqf6, hq7, hqf7⟩ := cells8 hbox; clear hbox hb hg))
  refine (refInt.calls k x.f1 i1 i2 i3 _ HI.out).mono ?_
  rintro e w2 ⟨rfl, hb⟩
  have HB2 := Aside0.mk hb
  clear hb
  clear hq0 hqf0 hq1 hqf1 hq2 hqf2 hq3 hqf3 hq4 hqf4 hq5 hqf5 hq6 hqf6 hq7 hqf7
  obtain ⟨hq0, hqf0, hq1, hqf1, hq2, hqf2, hq3, hqf3, hq4, hqf4, hq5, hqf5, hq6, hqf6, hq7, hqf7⟩ := cells8 (blk_below HX1.out HB2.out)
  go_wp2_with (fail)
  refine (glossaryref07_Type.calls k x.f1 p q _ HT.out).mono ?_
  rintro e w3 ⟨rfl, hb⟩
  have HB3 := Aside0.mk (below_step HB2.out hb)
  clear hb
  clear hq0 hqf0 hq1 hqf1 hq2 hqf2 hq3 hqf3 hq4 hqf4 hq5 hqf5 hq6 hqf6 hq7 hqf7
  obtain ⟨hq0, hqf0, hq1, hqf1, hq2, hqf2, hq3, hqf3, hq4, hqf4, hq5, hqf5, hq6, hqf6, hq7, hqf7⟩ := cells8 (blk_below HX1.out HB3.out)
  go_wp2_with (fail)
  refine (glossaryref07_ref.calls k x.f1 r _ H.out).mono ?_
  rintro e w4 ⟨rfl, hb⟩
  have HB4 := Aside0.mk (below_step HB3.out hb)
  clear hb
  go_wp2
  go_ret
  exact ⟨rfl, below_step HB1.out HB4.out⟩
set_option maxHeartbeats 16000000 in
set_option maxRecDepth 100000 in
theorem rtext_id (κ : Int) (hκ : NoT κ) (k : Nat) (x : S24) (A : Option Addr) (c : Nat) (i1 : Int) (i2 i3 p q r : Bool) (w : World) (hI : refInt.f k x.f1 = some (i1, i2, i3)) (hT : glossaryref07_Type.f k x.f1 = some (p, q)) (h : (glossaryref05_Ident.f k x.f1) = some r) :
  Calls Tryz.prog 27 #[.agg #[.int .i64 κ, .string x.f1, .int .i64 x.f2, .int .i64 x.f3, .int .i64 x.f4, .int .i64 x.f5, .string x.f6, .slice A x.f7.length c]] w fun e w' => e = .returned (.bool r) ∧ Below w.heap.size w w' := by
 have HI := Aside0.mk hI
 have HT := Aside0.mk hT
 clear hI hT
 obtain ⟨k1, d1, k2, d2, k3, d3, k7, d7, k18, d18, k19, d19, k24, d24, k20, d20, k22, d22, k4, d4, k12, d12, k13, d13, k14, d14, k23, d23, k16, d16⟩ := hκ
 have H := Aside0.mk h
 clear h
 go_enter Tryz.func27, Tryz.ntmps27
 go_wp2_with (first | ((with_reducible refine gate_dst (N := 1) rfl ?_); refine box_event ?hg (N := 1) ?hd (cs := #[.int .i64 κ, .string x.f1, .int .i64 x.f2, .int .i64 x.f3, .int .i64 x.f4, .int .i64 x.f5, .string x.f6, .slice A x.f7.length c]) (t := 24) ?hr ?_; (case hd => rfl); (case hg => rfl); (case hr => first | (go_simp; done) | (go_simp; rfl)); intro gx hg w1 hbox hb; have HB1 := Aside0.mk hb; have HX1 := Aside0.mk hbox; obtain ⟨hq0, hqf0, hq1, hqf1, hq2, hqf2, hq3, hqf3, hq4, hqf4, hq5, hqf5, hq6, hqf6, hq7, hqf7⟩ := cells8 hbox; clear hbox hb hg))
 refine (refInt.calls k x.f1 i1 i2 i3 _ HI.out).mono ?_
 rintro e w2 ⟨rfl, hb⟩
 have HB2 := Aside0.mk hb
 clear hb
 clear hq0 hqf0 hq1 hqf1 hq2 hqf2 hq3 hqf3 hq4 hqf4 hq5 hqf5 hq6 hqf6 hq7 hqf7
 obtain ⟨hq0, hqf0, hq1, hqf1, hq2, hqf2, hq3, hqf3, hq4, hqf4, hq5, hqf5, hq6, hqf6, hq7, hqf7⟩ := cells8 (blk_below HX1.out HB2.out)
 go_wp2_with (fail)
 refine (glossaryref07_Type.calls k x.f1 p q _ HT.out).mono ?_
 rintro e w3 ⟨rfl, hb⟩
 have HB3 := Aside0.mk (below_step HB2.out hb)
 clear hb
 clear hq0 hqf0 hq1 hqf1 hq2 hqf2 hq3 hqf3 hq4 hqf4 hq5 hqf5 hq6 hqf6 hq7 hqf7
 obtain ⟨hq0, hqf0, hq1, hqf1, hq2, hqf2, hq3, hqf3, hq4, hqf4, hq5, hqf5, hq6, hqf6, hq7, hqf7⟩ := cells8 (blk_below HX1.out HB3.out)
 go_wp2_with (fail)
 refine (glossaryref05_Ident.calls k x.f1 r _ H.out).mono ?_
 rintro e w4 ⟨rfl, hb⟩
 have HB4 := Aside0.mk (below_step HB3.out (drawn_below hb))
 clear hb
 go_wp2
 go_ret
 exact ⟨rfl, below_step HB1.out HB4.out⟩
theorem refText_calls (k : Nat) (x : S24) (A : Option Addr) (c : Nat) (r : Bool) (w : World) (h : refText k x = some r) :
  Calls Tryz.prog 27 #[.agg #[.int .i64 x.f0, .string x.f1, .int .i64 x.f2, .int .i64 x.f3, .int .i64 x.f4, .int .i64 x.f5, .string x.f6, .slice A x.f7.length c]] w fun e w' => e = .returned (.bool r) ∧ Below w.heap.size w w' := by
 obtain ⟨⟨i1, i2, i3⟩, hI, h⟩ := Option.bind_eq_some_iff.mp h
 obtain ⟨⟨p, q⟩, hT, h⟩ := Option.bind_eq_some_iff.mp h
 dsimp only [rtB] at h
 by_cases h1 : x.f0 = 1
 ·rw [if_pos h1] at h
  rw [h1]
  exact rtext_1 k x A c i1 i2 i3 p q r w hI hT h
 rw [if_neg h1] at h
 by_cases h2 : x.f0 = 2
 ·rw [if_pos h2] at h
  rw [h2]
  exact rtext_2 k x A c i1 i2 i3 p q r w hI hT h
 rw [if_neg h2] at h
 by_cases h3 : x.f0 = 3
 ·rw [if_pos h3] at h
  rw [h3]
  exact rtext_3 k x A c i1 i2 i3 p q r w hI hT h
 rw [if_neg h3] at h
 by_cases h4 : x.f0 = 4
 ·rw [if_pos h4] at h
  rw [h4]
  exact rtext_4 k x A c i1 i2 i3 p q r w hI hT h
 rw [if_neg h4] at h
 by_cases h7 : x.f0 = 7
 ·rw [if_pos h7] at h
  rw [h7]
  exact rtext_7 k x A c i1 i2 i3 p q r w hI hT h
 rw [if_neg h7] at h
 by_cases h12 : x.f0 = 12
 ·rw [if_pos h12] at h
  rw [h12]
  exact rtext_12 k x A c i1 i2 i3 p q r w hI hT h
 rw [if_neg h12] at h
 by_cases h13 : x.f0 = 13
 ·rw [if_pos h13] at h
  rw [h13]
  exact rtext_13 k x A c i1 i2 i3 p q r w hI hT h
 rw [if_neg h13] at h
 by_cases h14 : x.f0 = 14
 ·rw [if_pos h14] at h
  rw [h14]
  exact rtext_14 k x A c i1 i2 i3 p q r w hI hT h
 rw [if_neg h14] at h
 by_cases h16 : x.f0 = 16
 ·rw [if_pos h16] at h
  rw [h16]
  exact rtext_16 k x A c i1 i2 i3 p q r w hI hT h
 rw [if_neg h16] at h
 by_cases h18 : x.f0 = 18
 ·rw [if_pos h18] at h
  rw [h18]
  exact rtext_18 k x A c i1 i2 i3 p q r w hI hT h
 rw [if_neg h18] at h
 by_cases h19 : x.f0 = 19
 ·rw [if_pos h19] at h
  rw [h19]
  exact rtext_19 k x A c i1 i2 i3 p q r w hI hT h
 rw [if_neg h19] at h
 by_cases h20 : x.f0 = 20
 ·rw [if_pos h20] at h
  rw [h20]
  exact rtext_20 k x A c i1 i2 i3 p q r w hI hT h
 rw [if_neg h20] at h
 by_cases h22 : x.f0 = 22
 ·rw [if_pos h22] at h
  rw [h22]
  exact rtext_22 k x A c i1 i2 i3 p q r w hI hT h
 rw [if_neg h22] at h
 by_cases h23 : x.f0 = 23
 ·rw [if_pos h23] at h
  rw [h23]
  exact rtext_23 k x A c i1 i2 i3 p q r w hI hT h
 rw [if_neg h23] at h
 by_cases h24 : x.f0 = 24
 ·rw [if_pos h24] at h
  rw [h24]
  exact rtext_24 k x A c i1 i2 i3 p q r w hI hT h
 rw [if_neg h24] at h
 exact rtext_id x.f0 ⟨beq_eq_false_iff_ne.mpr h1, decide_eq_false h1, beq_eq_false_iff_ne.mpr h2, decide_eq_false h2, beq_eq_false_iff_ne.mpr h3, decide_eq_false h3, beq_eq_false_iff_ne.mpr h7, decide_eq_false h7, beq_eq_false_iff_ne.mpr h18, decide_eq_false h18, beq_eq_false_iff_ne.mpr h19, decide_eq_false h19, beq_eq_false_iff_ne.mpr h24, decide_eq_false h24, beq_eq_false_iff_ne.mpr h20, decide_eq_false h20, beq_eq_false_iff_ne.mpr h22, decide_eq_false h22, beq_eq_false_iff_ne.mpr h4, decide_eq_false h4, beq_eq_false_iff_ne.mpr h12, decide_eq_false h12, beq_eq_false_iff_ne.mpr h13, decide_eq_false h13, beq_eq_false_iff_ne.mpr h14, decide_eq_false h14, beq_eq_false_iff_ne.mpr h23, decide_eq_false h23, beq_eq_false_iff_ne.mpr h16, decide_eq_false h16⟩ k x A c i1 i2 i3 p q r w hI hT h
end Go.Proofs.YtdkepckkihclgaaGreatDoor.PNodeChecks

import Derived.Test.YtdkepckkihclgaaGreatDoorM14
import Derived.Laws.EntriesVeiled
import Derived.StillTactics
namespace Go.Proofs.YtdkepckkihclgaaGreatDoor.PNodeChecks
open Go.RowKit Go.Proofs.YtdkepckkihclgaaGreatDoorW.PrintWords Go.Proofs.YtdkepckkihclgaaGreatDoorW.PrintLast Go.Proofs.YtdkepckkihclgaaGreatDoorW.PrintMore
set_option linter.unusedVariables false
set_option linter.unusedSimpArgs false
def IntsAt (W : World) (g : Nat) (ks : List Int) : Prop := ∀ j, j < ks.length → W.cell? ⟨g, 0 + j, none⟩ = some (.int .i64 (ks.getD j 0))
theorem IntsAt.below {W W' : World} {g : Nat} {ks : List Int} (h : IntsAt W g ks) (hb : Below W.heap.size W W') : IntsAt W' g ks := fun j hj => pw_cell_below hb (h j hj)
def inB (ks : List Int) (x : Int) : Bool := decide (x ∈ ks)
structure AnyAt (W : World) (b g : Nat) (ks : List Int) : Prop where
 n : ks.length ≤ 100
 b : W.heap[b]? = some (.cells #[.slice (some ⟨g, 0, none⟩) ks.length ks.length] 53 (0, 0))
 c : IntsAt W g ks
theorem AnyAt.below {W W' : World} {b g : Nat} {ks : List Int} (h : AnyAt W b g ks) (hb : Below W.heap.size W W') : AnyAt W' b g ks := ⟨h.n, blk_below h.b hb, h.c.below hb⟩
set_option maxHeartbeats 8000000 in
set_option maxRecDepth 100000 in
theorem any11_calls (x : S24) (A : Option Addr) (c : Nat) (b g : Nat) (ks : List Int) (w : World) (h : AnyAt w b g ks) :
  Calls Tryz.prog 72 #[.agg #[.int .i64 x.f0, .string x.f1, .int .i64 x.f2, .int .i64 x.f3, .int .i64 x.f4, .int .i64 x.f5, .string x.f6, .slice A x.f7.length c], .pointer (some ⟨b, 0, none⟩)] w fun e w' => e = .returned (.bool (!(inB ks x.f0))) ∧ Below w.heap.size w w' := by
 have H := Aside0.mk h
 clear h
 go_enter Tryz.func72, Tryz.ntmps72
 go_wp2_with (first
  | ((with_reducible refine gate_dst (N := 2) rfl ?_); refine box_event ?hg (N := 2) ?hd (cs := #[.int .i64 x.f0, .string x.f1, .int .i64 x.f2, .int .i64 x.f3, .int .i64 x.f4, .int .i64 x.f5, .string x.f6, .slice A x.f7.length c]) (t := 24) ?hr ?_; (case hd => rfl); (case hg => rfl); (case hr => first | (go_simp; done) | (go_simp; rfl)); intro gx hg w1 hbox hb; have HB := Aside0.mk hb; have H1 := Aside0.mk (H.out.below hb); have hc0 : w1.cell? ⟨gx, 0, none⟩ = some (.int .i64 x.f0) := (blk_cell hbox 0).trans rfl; have hcb : w1.cell? ⟨b, 0, none⟩ = some (.slice (some ⟨g, 0, none⟩) ks.length ks.length) := (blk_cell H1.out.b 0).trans rfl; clear hg hb hbox)
  | (go_at_call 73; refine (Tryz.slices_Contains_int g 0 ks.length ks.length ks x.f0 _ (Nat.le_refl _) (by have := H1.out.n; omega) H1.out.c).mono ?_; rintro e w' ⟨rfl, rfl⟩))
 go_ret
 exact ⟨rfl, HB.out⟩
def allIn (ks : List Int) (l : List S24) : Bool := l.all fun x => inB ks x.f0
theorem allIn_drop (ks : List Int) (l : List S24) (i : Nat) (h : i < l.length) : allIn ks (l.drop i) = (inB ks (rd_T24 l i).f0 && allIn ks (l.drop (i + 1))) := by
 rw [List.drop_eq_getElem_cons h]
 simp only [allIn, List.all_cons, rd_T24, Int.toNat_natCast, List.getD_eq_getElem?_getD, List.getElem?_eq_getElem h, Option.getD_some]
def IdxPost (ks : List Int) (l : List S24) (w : World) (e : Ending) (w' : World) : Prop := ∃ r : Int, e = .returned (.int .i64 r) ∧ decide (0 ≤ r) = !(allIn ks l) ∧ Below w.heap.size w w'
set_option maxHeartbeats 8000000 in
set_option maxRecDepth 100000 in
theorem IndexFunc_any (l : List S24) (A : Option Addr) (c : Nat) (b g : Nat) (ks : List Int) (w : World) (hr : Kd.C k24 w A l.length l) (hc : l.length ≤ c) (h : AnyAt w b g ks) :
  Calls Tryz.prog 92 #[.slice A l.length c, .func (.func 72) #[] #[.pointer (some ⟨b, 0, none⟩)]] w (IdxPost ks l w) := by
 have H := Aside0.mk h
 have HR := Aside0.mk hr
 have HC := Aside0.mk hc
 have HL := Aside0.mk hr.2.1
 clear h hr hc
 go_enter Tryz.func92, Tryz.ntmps92
 go_wp2
 go_loopw [5, 8] (fun v5 v8 w' => ∃ i : Int, v8 = .int .i64 i ∧ 0 ≤ i ∧ i ≤ l.length ∧ Aside0 (allIn ks l = allIn ks (l.drop i.toNat)) ∧ Aside0 (Below w.heap.size w w')) (fun v5 v8 w' => l.length - (intOf v8).toNat)
 case atStart => exact ⟨0, rfl, by omega, by omega, ⟨rfl⟩, ⟨Below.refl _ _⟩⟩
 case round =>
  obtain ⟨i, rfl, hi0, hi, HA, HB⟩ := hrel
  by_cases c7 : i < (l.length : Int)
  ·obtain ⟨ad, A7, c77, e, hx0, hx1, hx2, hx3, hx4, hx5, hx6, hx7, hl7, hi7⟩ := at_T24 HR.out i hi0 c7
   cases e
   replace hx0 := (HB.out.cell (World.block_lt_of_cell? w _ hx0)).trans hx0
   replace hx1 := (HB.out.cell (World.block_lt_of_cell? w _ hx1)).trans hx1
   replace hx2 := (HB.out.cell (World.block_lt_of_cell? w _ hx2)).trans hx2
   replace hx3 := (HB.out.cell (World.block_lt_of_cell? w _ hx3)).trans hx3
   replace hx4 := (HB.out.cell (World.block_lt_of_cell? w _ hx4)).trans hx4
   replace hx5 := (HB.out.cell (World.block_lt_of_cell? w _ hx5)).trans hx5
   replace hx6 := (HB.out.cell (World.block_lt_of_cell? w _ hx6)).trans hx6
   replace hx7 := (HB.out.cell (World.block_lt_of_cell? w _ hx7)).trans hx7
   have hlb : (l.length : Int) ≤ 9223372036854775807 := by have := HL.out; omega
   have HD := Aside0.mk (allIn_drop ks l i.toNat (by omega))
   rw [Int.toNat_of_nonneg hi0] at HD
   have H1 := Aside0.mk (H.out.below HB.out)
   have c7b := decide_eq_true c7
   have hi0b := decide_eq_true hi0
   clear hl7 hi7
   cases hb : inB ks (rd_T24 l i).f0
   ·have HBi := Aside0.mk hb
    clear hb
    go_wp2_with (first | (go_at_call 72; refine (any11_calls (rd_T24 l i) A7 c77 b g ks _ H1.out).mono ?_; rintro e w3 ⟨rfl, hb⟩; rw [HBi.out]; have HB3 := Aside0.mk (below_step HB.out hb); clear hb))
    go_ret
    exact ⟨i, rfl, by rw [HA.out, HD.out, HBi.out]; simpa using hi0, HB3.out⟩
   ·have HBi := Aside0.mk hb
    clear hb
    go_wp2_with (first | (go_at_call 72; refine (any11_calls (rd_T24 l i) A7 c77 b g ks _ H1.out).mono ?_; rintro e w3 ⟨rfl, hb⟩; rw [HBi.out]; have HB3 := Aside0.mk (below_step HB.out hb); clear hb))
    go_roundw
    case rel => exact ⟨i + 1, rfl, by omega, by omega, ⟨by rw [HA.out, HD.out, HBi.out, Bool.true_and, show (i + 1).toNat = i.toNat + 1 from by omega]⟩, HB3⟩
    case measure => simp [intOf]; omega
  ·have c7b := decide_eq_false c7
   go_wp2
   go_ret
   exact ⟨-1, rfl, by rw [HA.out, List.drop_eq_nil_of_le (by omega)]; rfl, HB.out⟩
set_option maxHeartbeats 8000000 in
theorem Contains_any (l : List S24) (A : Option Addr) (c : Nat) (b g : Nat) (ks : List Int) (w : World) (hr : Kd.C k24 w A l.length l) (hc : l.length ≤ c) (h : AnyAt w b g ks) :
  Calls Tryz.prog 71 #[.slice A l.length c, .func (.func 72) #[] #[.pointer (some ⟨b, 0, none⟩)]] w fun e w' => e = .returned (.bool (!(allIn ks l))) ∧ Below w.heap.size w w' := by
 have HI := Aside0.mk (IndexFunc_any l A c b g ks w hr hc h)
 clear hr hc h
 go_enter Tryz.func71, Tryz.ntmps71
 go_wp2_with (go_at_call 92; refine HI.out.mono ?_; rintro e w' ⟨r, rfl, hd, hb⟩; have HB := Aside0.mk hb; clear hb)
 go_ret
 exact ⟨by rw [← hd]; rfl, HB.out⟩
set_option maxHeartbeats 8000000 in
theorem any1_calls (l : List S24) (A : Option Addr) (c : Nat) (b g : Nat) (ks : List Int) (w : World) (hr : Kd.C k24 w A l.length l) (hc : l.length ≤ c) (h : AnyAt w b g ks) :
  Calls Tryz.prog 70 #[.slice A l.length c, .pointer (some ⟨b, 0, none⟩)] w fun e w' => e = .returned (.bool (allIn ks l)) ∧ Below w.heap.size w w' := by
 have HI := Aside0.mk (Contains_any l A c b g ks w hr hc h)
 clear hr hc h
 go_enter Tryz.func70, Tryz.ntmps70
 go_wp2_with (go_at_call 71; refine HI.out.mono ?_; rintro e w' ⟨rfl, hb⟩; have HB := Aside0.mk hb; clear hb)
 go_ret
 exact ⟨by simp, HB.out⟩
def AnyPost (g : Nat) (ks : List Int) (w : World) (e : Ending) (w' : World) : Prop := ∃ b, e = .returned (.func (.func 70) #[] #[.pointer (some ⟨b, 0, none⟩)]) ∧ AnyAt w' b g ks ∧ Below w.heap.size w w'
set_option maxHeartbeats 8000000 in
theorem anyOf_calls (g : Nat) (ks : List Int) (w : World) (hn : ks.length ≤ 100) (h : IntsAt w g ks) :
  Calls Tryz.prog 37 #[.slice (some ⟨g, 0, none⟩) ks.length ks.length] w (AnyPost g ks w) := by
 have H := Aside0.mk h
 have HB := Aside0.mk (Below.refl w.heap.size w)
 clear h
 go_enter Tryz.func37, Tryz.ntmps37
 go_wp2
 go_ret
 exact ⟨w.heap.size, rfl, ⟨hn, blk_new w _, H.out.below (below_alloc HB.out _)⟩, below_alloc HB.out _⟩
end Go.Proofs.YtdkepckkihclgaaGreatDoor.PNodeChecks
namespace Go.Proofs.YtdkepckkihclgaaGreatDoor.PNodeChecks
open Go.RowKit Go.Proofs.YtdkepckkihclgaaGreatDoorW.PrintWords Go.Proofs.YtdkepckkihclgaaGreatDoorW.PrintLast Go.Proofs.YtdkepckkihclgaaGreatDoorW.PrintMore
set_option linter.unusedVariables false
variable {P : Program} {ops : Array Oper} {Q : Exit → Act → World → Prop}
theorem goesV_ {oi : Oper} {N : Option Tmp} {a : Act} {w : World} {K : Act → World → Prop} {f : FuncId} {fn : Func} {as_ : Array Operand} {ts : Array TypeId} {t : Tmp} {cap : Array Value}
  (hf : P.funcs[f]? = some fn) (hname : (fn.name == "runtime.NumGoroutine") = false) (hb : fn.body.isSome = true) (args : Array Value)
  (hw : Region.wanted oi (yielded ops a.tmps) = true) (hN : oi.dst = N) (hop : oi.op = .call { callee := .value (.tmp t), args := as_, argTypes := ts }) (hv : a.eval (.tmp t) = .func (.func f) #[] cap) (hargs : as_.map a.eval = args) {all : Array Value} (ha : args ++ cap = all)
  (h : Calls P f all w fun e w' => ∃ v, e = .returned v ∧ K (a.put N v) w') : if Region.wanted oi (yielded ops a.tmps) = true then Oper.wp P oi a w K Q else K (a.put N undef) w := by
 subst ha
 refine call_ f (args ++ cap) hw hN ?_ h
 have he := enters_ hf hname hb (args ++ cap) w
 unfold execOp
 simp [hop, resolve, Deferred.ofValue, invoke, hv, hargs, he]
end Go.Proofs.YtdkepckkihclgaaGreatDoor.PNodeChecks
namespace Go.Proofs.YtdkepckkihclgaaGreatDoor.PNodeChecks
open Go.RowKit Go.Proofs.YtdkepckkihclgaaGreatDoorW.PrintWords Go.Proofs.YtdkepckkihclgaaGreatDoorW.PrintLast Go.Proofs.YtdkepckkihclgaaGreatDoorW.PrintMore
set_option linter.unusedVariables false
set_option linter.unusedSimpArgs false
theorem info24 : (Tryz.prog.info? 24).map (fun i => (i.zero, i.size, i.bytes)) = some (some (.agg #[.int .i64 0, .string ⟨#[]⟩, .int .i64 0, .int .i64 0, .int .i64 0, .int .i64 0, .string ⟨#[]⟩, .slice none 0 0]), 8, 96) := by kernel_rfl
theorem cut_nodes (A : Option Addr) (len c n : Nat) (h : n ≤ len) (hc : len ≤ c) : ∃ A' : Option Addr, (∀ W : World, (Instr.slice 22 (.slice A len c) (some (.int .i64 (n : Int))) none none).run Tryz.prog W = .ok (.slice A' (len - n) (c - n)) W) ∧
  ∀ (w : World) (l : List S24), l.length = len → Kd.C k24 w A len l → Kd.C k24 w A' (l.drop n).length (l.drop n) := by
 refine ⟨if c = n then A else A.map (·.add (n * 8)), fun W => ?_, fun w l hl hC => by subst hl; exact Kd.C_drop hC h hc⟩
 have hu : Tryz.prog.underlying 22 = some (.slice (Tryz.prog.elem 22)) := by kernel_rfl
 have hel : Tryz.prog.elem 22 = 24 := by kernel_rfl
 have hsz : ∀ W, (sizeOf 24).run Tryz.prog W = .ok 8 W := fun _ => by kernel_rfl
 rw [run_slice_l W 22 A len c hu .i64 (n : Int) (Int.natCast_nonneg _) (by omega), hel, hsz]
 simp [sliced, Result.andThen]
theorem any1_at (l : List S24) (m : Nat) (hm : l.length = m) (A : Option Addr) (c : Nat) (b g : Nat) (ks : List Int) (w : World) (hr : Kd.C k24 w A l.length l) (hc : l.length ≤ c) (h : AnyAt w b g ks) :
  Calls Tryz.prog 70 #[.slice A m c, .pointer (some ⟨b, 0, none⟩)] w fun e w' => e = .returned (.bool (allIn ks l)) ∧ Below w.heap.size w w' := by
 subst hm
 exact any1_calls l A c b g ks w hr hc h
def typedIn (n : Nat) (l : List S24) : Bool := decide (n ≤ l.length) && (allIn [18] (l.take n) && allIn [4] (l.drop n))
theorem ints_new (w : World) (ks : List Int) (t : TypeId) : IntsAt (w.alloc (.cells (nums .i64 ks).toArray t)) w.heap.size ks := fun j hj => by
 rw [Nat.zero_add, blk_cell (blk_new w _)]
 simp [nums, List.getElem?_eq_getElem hj, List.getD_eq_getElem?_getD]
theorem ints_one (w : World) (k : Int) : IntsAt (w.alloc (.cells #[.int .i64 k] 3)) w.heap.size [k] := ints_new w [k] 3
theorem anyOf_one (g : Nat) (k : Int) (w : World) (h : IntsAt w g [k]) : Calls Tryz.prog 37 #[.slice (some ⟨g, 0, none⟩) 1 1] w (AnyPost g [k] w) := anyOf_calls g [k] w (by simp) h
set_option maxRecDepth 100000 in
theorem typed1_calls (l : List S24) (A : Option Addr) (c n bn : Nat) (w : World) (hr : Kd.C k24 w A l.length l) (hc : l.length ≤ c) (hn : n = 1 ∨ n = 2) (hb : w.heap[bn]? = some (.cells #[.int .i64 n] 3 (0, 0))) :
  Calls Tryz.prog 80 #[.slice A l.length c, .pointer (some ⟨bn, 0, none⟩)] w fun e w' => e = .returned (.bool (typedIn n l)) ∧ Below w.heap.size w w' := by
 have HR := Aside0.mk hr
 have HB := Aside0.mk hb
 have HC := Aside0.mk hc
 have hcell : w.cell? ⟨bn, 0, none⟩ = some (.int .i64 n) := (blk_cell hb 0).trans rfl
 have hlt := blk_lt hb
 clear hr hb hc
 by_cases h1 : n ≤ l.length
 ·have h1b : decide ((n : Int) ≤ (l.length : Int)) = true := decide_eq_true (by omega)
  have h1c : (n : Int) ≤ (l.length : Int) := by omega
  have h0 : (0 : Int) ≤ (n : Int) := by omega
  have h1d : (n : Int) ≤ (c : Int) := by have := HC.out; omega
  have h1e : n ≤ c := by have := HC.out; omega
  obtain ⟨A', hsl, hC'⟩ := cut_nodes A l.length c n h1 HC.out
  have HC' := Aside0.mk (fun (W : World) (h : Kd.C k24 W A l.length l) => hC' W l rfl h)
  clear hC'
  cases ha : allIn [18] (l.take n)
  ·have HA := Aside0.mk ha
   have hF : Aside0 (typedIn n l = false) := ⟨by simp [typedIn, ha]⟩
   clear ha
   go_enter Tryz.func80, Tryz.ntmps80
   go_wp2
   refine start_ (n := 21) (S := fun w' => w'.cell? ⟨bn, 0, none⟩ = some (.int .i64 n)) (ds := []) #[false, false, false, false, false, false, false, false, false, false, false, false, false, false, false, false, false, false, false, false, false] (by kernel_rfl) rfl rfl (hcell) (fun hHeld => ?_)
   refine pure_ (i := 0) (N := some 4) (v := ?_) (a' := ?_) #[true, false, false, false, false, false, false, false, false, false, false, false, false, false, false, false, false, false, false, false, false] rfl rfl (by kernel_rfl) (fun _ _ _ h => h) (Or.inl ⟨by rfl, ?_⟩) ?_ ?_
   rotate_left
   ·intro w'
    go_simp
    with_reducible rfl
   rotate_left
   ·simp only [Act.put, List.setIfInBounds_toArray, List.set_cons_zero, List.set_cons_succ, i64_w, i32_w]
    rfl
   refine pure_ (i := 1) (N := some 5) (v := ?_) (a' := ?_) #[true, true, false, false, false, false, false, false, false, false, false, false, false, false, false, false, false, false, false, false, false] rfl rfl (by kernel_rfl) (fun _ _ _ h => h) (Or.inl ⟨by rfl, ?_⟩) ?_ ?_
   rotate_left
   ·intro w'
    go_simp
    with_reducible rfl
   rotate_left
   ·simp only [Act.put, List.setIfInBounds_toArray, List.set_cons_zero, List.set_cons_succ, i64_w, i32_w]
    rfl
   refine take_ (i := 2) (N := some 6) (v := ?_) (a' := ?_) #[true, true, true, false, false, false, false, false, false, false, false, false, false, false, false, false, false, false, false, false, false] rfl rfl (by kernel_rfl) (fun _ _ _ h => h) (Or.inl ⟨by rfl, ?_⟩) hHeld ?_ ?_
   rotate_left
   ·intro w' s0
    go_simp
    with_reducible rfl
   rotate_left
   ·simp only [Act.put, List.setIfInBounds_toArray, List.set_cons_zero, List.set_cons_succ, i64_w, i32_w]
    rfl
   refine pure_ (i := 3) (N := some 7) (v := ?_) (a' := ?_) #[true, true, true, true, false, false, false, false, false, false, false, false, false, false, false, false, false, false, false, false, false] rfl rfl (by kernel_rfl) (fun _ _ _ h => h) (Or.inl ⟨by rfl, ?_⟩) ?_ ?_
   rotate_left
   ·intro w'
    go_simp
    with_reducible rfl
   rotate_left
   ·simp only [Act.put, List.setIfInBounds_toArray, List.set_cons_zero, List.set_cons_succ, i64_w, i32_w]
    rfl
   refine pure_ (i := 4) (N := some 8) (v := ?_) (a' := ?_) #[true, true, true, true, true, false, false, false, false, false, false, false, false, false, false, false, false, false, false, false, false] rfl rfl (by kernel_rfl) (fun _ _ _ h => h) (Or.inl ⟨by rfl, ?_⟩) ?_ ?_
   rotate_left
   ·intro w'
    go_simp
    with_reducible rfl
   rotate_left
   ·simp only [Act.put, List.setIfInBounds_toArray, List.set_cons_zero, List.set_cons_succ, i64_w, i32_w]
    rfl
   refine pure_ (i := 7) (N := some 11) (v := ?_) (a' := ?_) #[true, true, true, true, true, false, false, true, false, false, false, false, false, false, false, false, false, false, false, false, false] rfl rfl (by kernel_rfl) (fun _ _ _ h => h) (Or.inl ⟨by rfl, ?_⟩) ?_ ?_
   rotate_left
   ·intro w'
    go_simp
    with_reducible rfl
   rotate_left
   ·simp only [Act.put, List.setIfInBounds_toArray, List.set_cons_zero, List.set_cons_succ, i64_w, i32_w]
    rfl
   refine take_ (i := 8) (N := some 12) (v := ?_) (a' := ?_) #[true, true, true, true, true, false, false, true, true, false, false, false, false, false, false, false, false, false, false, false, false] rfl rfl (by kernel_rfl) (fun _ _ _ h => h) (Or.inl ⟨by rfl, ?_⟩) hHeld ?_ ?_
   rotate_left
   ·intro w' s0
    go_simp
    with_reducible rfl
   rotate_left
   ·simp only [Act.put, List.setIfInBounds_toArray, List.set_cons_zero, List.set_cons_succ, i64_w, i32_w]
    rfl
   refine pure_ (i := 9) (N := some 13) (v := ?_) (a' := ?_) #[true, true, true, true, true, false, false, true, true, true, false, false, false, false, false, false, false, false, false, false, false] rfl rfl (by kernel_rfl) (fun _ _ _ h => h) (Or.inl ⟨by rfl, ?_⟩) ?_ ?_
   rotate_left
   ·intro w'
    go_simp
    with_reducible rfl
   rotate_left
   ·simp only [Act.put, List.setIfInBounds_toArray, List.set_cons_zero, List.set_cons_succ, i64_w, i32_w]
    rfl
   refine one_ (i := 5) (N := some 9) #[true, true, true, true, true, true, false, true, true, true, false, false, false, false, false, false, false, false, false, false, false] rfl rfl (by kernel_rfl) (by decide) (fun K hK => ?_)
   refine value_ (w1 := ?_) (v := ?_) (by rfl) rfl ?_ ?_
   rotate_left 2
   ·go_simp
    constructor
    ·rfl
    ·rfl
   refine hK.out _ _ (pw_cell_below (below_drew (below_alloc (Below.refl _ w) _)) hcell) (fun hHeld => ?_)
   clear hK K
   refine norm_ (a' := ?_) ?_ ?_
   rotate_left
   ·show Act.put _ (some 9) _ = _
    simp only [Act.put, List.setIfInBounds_toArray, List.set_cons_zero, List.set_cons_succ, i64_w, i32_w]
    rfl
   refine one_ (i := 6) (N := some 10) #[true, true, true, true, true, true, true, true, true, true, false, false, false, false, false, false, false, false, false, false, false] rfl rfl (by kernel_rfl) (by decide) (fun K hK => ?_)
   refine goes_ Tryz.func37 (by kernel_rfl) rfl #[.slice (some ⟨w.heap.size, 0, none⟩) 1 1] (by rfl) rfl rfl (by simp only [List.map_toArray, List.map_cons, List.map_nil]; rfl) ?_
   with_reducible refine (anyOf_one w.heap.size 18 _ ((ints_one w 18).below (below_drew (Below.refl _ _)))).mono ?_
   rintro e w3 ⟨b1, rfl, hat, hbb⟩
   refine ⟨_, rfl, ?_⟩
   have HA1 := Aside0.mk hat
   have HB3 := Aside0.mk (below_step (below_drew (below_alloc (Below.refl _ w) (.cells #[.int .i64 18] 3))) hbb)
   clear hat hbb
   refine hK.out _ _ (pw_cell_below HB3.out hcell) (fun hHeld => ?_)
   clear hK K
   refine norm_ (a' := ?_) ?_ ?_
   rotate_left
   ·show Act.put _ (some 10) _ = _
    simp only [Act.put, List.setIfInBounds_toArray, List.set_cons_zero, List.set_cons_succ, i64_w, i32_w]
    rfl
   refine one_ (i := 10) (N := some 14) #[true, true, true, true, true, true, true, true, true, true, true, false, false, false, false, false, false, false, false, false, false] rfl rfl (by kernel_rfl) (by decide) (fun K hK => ?_)
   refine goesV_ Tryz.func70 (by kernel_rfl) rfl #[.slice A n c] (cap := #[.pointer (some ⟨b1, 0, none⟩)]) (by rfl) rfl rfl (by rfl) (by simp only [List.map_toArray, List.map_cons, List.map_nil]; rfl) (all := #[.slice A n c, .pointer (some ⟨b1, 0, none⟩)]) rfl ?_
   with_reducible refine (any1_at (l.take n) n (by rw [List.length_take]; omega) A c b1 w.heap.size [18] _ (Kd.C_take (Kd.C_below HR.out HB3.out) h1) (by rw [List.length_take]; have := HC.out; omega) HA1.out).mono ?_
   rintro e w4 ⟨rfl, hbb⟩
   refine ⟨_, rfl, ?_⟩
   rw [HA.out]
   have HB4 := Aside0.mk (below_step HB3.out hbb)
   clear hbb
   refine hK.out _ _ (pw_cell_below HB4.out hcell) (fun hHeld => ?_)
   clear hK K
   refine norm_ (a' := ?_) ?_ ?_
   rotate_left
   ·show Act.put _ (some 14) _ = _
    simp only [Act.put, List.setIfInBounds_toArray, List.set_cons_zero, List.set_cons_succ, i64_w, i32_w]
    rfl
   refine pure_ (i := 11) (N := some 15) (v := ?_) (a' := ?_) #[true, true, true, true, true, true, true, true, true, true, true, true, false, false, false, false, false, false, false, false, false] rfl rfl (by kernel_rfl) (fun _ _ _ h => h) (Or.inl ⟨by rfl, ?_⟩) ?_ ?_
   rotate_left
   ·intro w'
    go_simp
    with_reducible rfl
   rotate_left
   ·simp only [Act.put, List.setIfInBounds_toArray, List.set_cons_zero, List.set_cons_succ, i64_w, i32_w]
    rfl
   refine pure_ (i := 12) (N := some 16) (v := ?_) (a' := ?_) #[true, true, true, true, true, true, true, true, true, true, true, true, true, false, false, false, false, false, false, false, false] rfl rfl (by kernel_rfl) (fun _ _ _ h => h) (Or.inl ⟨by rfl, ?_⟩) ?_ ?_
   rotate_left
   ·intro w'
    go_simp
    with_reducible rfl
   rotate_left
   ·simp only [Act.put, List.setIfInBounds_toArray, List.set_cons_zero, List.set_cons_succ, i64_w, i32_w]
    rfl
   refine pure_ (i := 13) (N := some 17) (v := undef) (a' := ?_) #[true, true, true, true, true, true, true, true, true, true, true, true, true, true, false, false, false, false, false, false, false] rfl rfl (by kernel_rfl) (fun _ _ _ h => h) (Or.inr ⟨by rfl, rfl⟩) ?_ ?_
   rotate_left
   ·simp only [Act.put, List.setIfInBounds_toArray, List.set_cons_zero, List.set_cons_succ, i64_w, i32_w]
    rfl
   refine pure_ (i := 14) (N := some 18) (v := undef) (a' := ?_) #[true, true, true, true, true, true, true, true, true, true, true, true, true, true, true, false, false, false, false, false, false] rfl rfl (by kernel_rfl) (fun _ _ _ h => h) (Or.inr ⟨by rfl, rfl⟩) ?_ ?_
   rotate_left
   ·simp only [Act.put, List.setIfInBounds_toArray, List.set_cons_zero, List.set_cons_succ, i64_w, i32_w]
    rfl
   refine pure_ (i := 15) (N := some 19) (v := undef) (a' := ?_) #[true, true, true, true, true, true, true, true, true, true, true, true, true, true, true, true, false, false, false, false, false] rfl rfl (by kernel_rfl) (fun _ _ _ h => h) (Or.inr ⟨by rfl, rfl⟩) ?_ ?_
   rotate_left
   ·simp only [Act.put, List.setIfInBounds_toArray, List.set_cons_zero, List.set_cons_succ, i64_w, i32_w]
    rfl
   refine pure_ (i := 16) (N := some 20) (v := undef) (a' := ?_) #[true, true, true, true, true, true, true, true, true, true, true, true, true, true, true, true, true, false, false, false, false] rfl rfl (by kernel_rfl) (fun _ _ _ h => h) (Or.inr ⟨by rfl, rfl⟩) ?_ ?_
   rotate_left
   ·simp only [Act.put, List.setIfInBounds_toArray, List.set_cons_zero, List.set_cons_succ, i64_w, i32_w]
    rfl
   refine pure_ (i := 17) (N := some 21) (v := undef) (a' := ?_) #[true, true, true, true, true, true, true, true, true, true, true, true, true, true, true, true, true, true, false, false, false] rfl rfl (by kernel_rfl) (fun _ _ _ h => h) (Or.inr ⟨by rfl, rfl⟩) ?_ ?_
   rotate_left
   ·simp only [Act.put, List.setIfInBounds_toArray, List.set_cons_zero, List.set_cons_succ, i64_w, i32_w]
    rfl
   refine pure_ (i := 18) (N := some 22) (v := undef) (a' := ?_) #[true, true, true, true, true, true, true, true, true, true, true, true, true, true, true, true, true, true, true, false, false] rfl rfl (by kernel_rfl) (fun _ _ _ h => h) (Or.inr ⟨by rfl, rfl⟩) ?_ ?_
   rotate_left
   ·simp only [Act.put, List.setIfInBounds_toArray, List.set_cons_zero, List.set_cons_succ, i64_w, i32_w]
    rfl
   refine pure_ (i := 19) (N := some 23) (v := ?_) (a' := ?_) #[true, true, true, true, true, true, true, true, true, true, true, true, true, true, true, true, true, true, true, true, false] rfl rfl (by kernel_rfl) (fun _ _ _ h => h) (Or.inl ⟨by rfl, ?_⟩) ?_ ?_
   rotate_left
   ·intro w'
    go_simp
    with_reducible rfl
   rotate_left
   ·simp only [Act.put, List.setIfInBounds_toArray, List.set_cons_zero, List.set_cons_succ, i64_w, i32_w]
    rfl
   refine pure_ (i := 20) (N := some 3) (v := ?_) (a' := ?_) #[true, true, true, true, true, true, true, true, true, true, true, true, true, true, true, true, true, true, true, true, true] rfl rfl (by kernel_rfl) (fun _ _ _ h => h) (Or.inl ⟨by rfl, ?_⟩) ?_ ?_
   rotate_left
   ·intro w'
    go_simp
    with_reducible rfl
   rotate_left
   ·simp only [Act.put, List.setIfInBounds_toArray, List.set_cons_zero, List.set_cons_succ, i64_w, i32_w]
    rfl
   refine done_ (by kernel_rfl) ?_
   go_wp2
   go_ret
   exact ⟨by rw [hF.out]; rfl, HB4.out⟩
  ·have HA := Aside0.mk ha
   have hF : Aside0 (typedIn n l = allIn [4] (l.drop n)) := ⟨by simp [typedIn, ha, h1]⟩
   clear ha
   go_enter Tryz.func80, Tryz.ntmps80
   go_wp2
   refine start_ (n := 21) (S := fun w' => w'.cell? ⟨bn, 0, none⟩ = some (.int .i64 n)) (ds := []) #[false, false, false, false, false, false, false, false, false, false, false, false, false, false, false, false, false, false, false, false, false] (by kernel_rfl) rfl rfl (hcell) (fun hHeld => ?_)
   refine pure_ (i := 0) (N := some 4) (v := ?_) (a' := ?_) #[true, false, false, false, false, false, false, false, false, false, false, false, false, false, false, false, false, false, false, false, false] rfl rfl (by kernel_rfl) (fun _ _ _ h => h) (Or.inl ⟨by rfl, ?_⟩) ?_ ?_
   rotate_left
   ·intro w'
    go_simp
    with_reducible rfl
   rotate_left
   ·simp only [Act.put, List.setIfInBounds_toArray, List.set_cons_zero, List.set_cons_succ, i64_w, i32_w]
    rfl
   refine pure_ (i := 1) (N := some 5) (v := ?_) (a' := ?_) #[true, true, false, false, false, false, false, false, false, false, false, false, false, false, false, false, false, false, false, false, false] rfl rfl (by kernel_rfl) (fun _ _ _ h => h) (Or.inl ⟨by rfl, ?_⟩) ?_ ?_
   rotate_left
   ·intro w'
    go_simp
    with_reducible rfl
   rotate_left
   ·simp only [Act.put, List.setIfInBounds_toArray, List.set_cons_zero, List.set_cons_succ, i64_w, i32_w]
    rfl
   refine take_ (i := 2) (N := some 6) (v := ?_) (a' := ?_) #[true, true, true, false, false, false, false, false, false, false, false, false, false, false, false, false, false, false, false, false, false] rfl rfl (by kernel_rfl) (fun _ _ _ h => h) (Or.inl ⟨by rfl, ?_⟩) hHeld ?_ ?_
   rotate_left
   ·intro w' s0
    go_simp
    with_reducible rfl
   rotate_left
   ·simp only [Act.put, List.setIfInBounds_toArray, List.set_cons_zero, List.set_cons_succ, i64_w, i32_w]
    rfl
   refine pure_ (i := 3) (N := some 7) (v := ?_) (a' := ?_) #[true, true, true, true, false, false, false, false, false, false, false, false, false, false, false, false, false, false, false, false, false] rfl rfl (by kernel_rfl) (fun _ _ _ h => h) (Or.inl ⟨by rfl, ?_⟩) ?_ ?_
   rotate_left
   ·intro w'
    go_simp
    with_reducible rfl
   rotate_left
   ·simp only [Act.put, List.setIfInBounds_toArray, List.set_cons_zero, List.set_cons_succ, i64_w, i32_w]
    rfl
   refine pure_ (i := 4) (N := some 8) (v := ?_) (a' := ?_) #[true, true, true, true, true, false, false, false, false, false, false, false, false, false, false, false, false, false, false, false, false] rfl rfl (by kernel_rfl) (fun _ _ _ h => h) (Or.inl ⟨by rfl, ?_⟩) ?_ ?_
   rotate_left
   ·intro w'
    go_simp
    with_reducible rfl
   rotate_left
   ·simp only [Act.put, List.setIfInBounds_toArray, List.set_cons_zero, List.set_cons_succ, i64_w, i32_w]
    rfl
   refine pure_ (i := 7) (N := some 11) (v := ?_) (a' := ?_) #[true, true, true, true, true, false, false, true, false, false, false, false, false, false, false, false, false, false, false, false, false] rfl rfl (by kernel_rfl) (fun _ _ _ h => h) (Or.inl ⟨by rfl, ?_⟩) ?_ ?_
   rotate_left
   ·intro w'
    go_simp
    with_reducible rfl
   rotate_left
   ·simp only [Act.put, List.setIfInBounds_toArray, List.set_cons_zero, List.set_cons_succ, i64_w, i32_w]
    rfl
   refine take_ (i := 8) (N := some 12) (v := ?_) (a' := ?_) #[true, true, true, true, true, false, false, true, true, false, false, false, false, false, false, false, false, false, false, false, false] rfl rfl (by kernel_rfl) (fun _ _ _ h => h) (Or.inl ⟨by rfl, ?_⟩) hHeld ?_ ?_
   rotate_left
   ·intro w' s0
    go_simp
    with_reducible rfl
   rotate_left
   ·simp only [Act.put, List.setIfInBounds_toArray, List.set_cons_zero, List.set_cons_succ, i64_w, i32_w]
    rfl
   refine pure_ (i := 9) (N := some 13) (v := ?_) (a' := ?_) #[true, true, true, true, true, false, false, true, true, true, false, false, false, false, false, false, false, false, false, false, false] rfl rfl (by kernel_rfl) (fun _ _ _ h => h) (Or.inl ⟨by rfl, ?_⟩) ?_ ?_
   rotate_left
   ·intro w'
    go_simp
    with_reducible rfl
   rotate_left
   ·simp only [Act.put, List.setIfInBounds_toArray, List.set_cons_zero, List.set_cons_succ, i64_w, i32_w]
    rfl
   refine one_ (i := 5) (N := some 9) #[true, true, true, true, true, true, false, true, true, true, false, false, false, false, false, false, false, false, false, false, false] rfl rfl (by kernel_rfl) (by decide) (fun K hK => ?_)
   refine value_ (w1 := ?_) (v := ?_) (by rfl) rfl ?_ ?_
   rotate_left 2
   ·go_simp
    constructor
    ·rfl
    ·rfl
   refine hK.out _ _ (pw_cell_below (below_drew (below_alloc (Below.refl _ w) _)) hcell) (fun hHeld => ?_)
   clear hK K
   refine norm_ (a' := ?_) ?_ ?_
   rotate_left
   ·show Act.put _ (some 9) _ = _
    simp only [Act.put, List.setIfInBounds_toArray, List.set_cons_zero, List.set_cons_succ, i64_w, i32_w]
    rfl
   refine one_ (i := 6) (N := some 10) #[true, true, true, true, true, true, true, true, true, true, false, false, false, false, false, false, false, false, false, false, false] rfl rfl (by kernel_rfl) (by decide) (fun K hK => ?_)
   refine goes_ Tryz.func37 (by kernel_rfl) rfl #[.slice (some ⟨w.heap.size, 0, none⟩) 1 1] (by rfl) rfl rfl (by simp only [List.map_toArray, List.map_cons, List.map_nil]; rfl) ?_
   with_reducible refine (anyOf_one w.heap.size 18 _ ((ints_one w 18).below (below_drew (Below.refl _ _)))).mono ?_
   rintro e w3 ⟨b1, rfl, hat, hbb⟩
   refine ⟨_, rfl, ?_⟩
   have HA1 := Aside0.mk hat
   have HB3 := Aside0.mk (below_step (below_drew (below_alloc (Below.refl _ w) (.cells #[.int .i64 18] 3))) hbb)
   clear hat hbb
   refine hK.out _ _ (pw_cell_below HB3.out hcell) (fun hHeld => ?_)
   clear hK K
   refine norm_ (a' := ?_) ?_ ?_
   rotate_left
   ·show Act.put _ (some 10) _ = _
    simp only [Act.put, List.setIfInBounds_toArray, List.set_cons_zero, List.set_cons_succ, i64_w, i32_w]
    rfl
   refine one_ (i := 10) (N := some 14) #[true, true, true, true, true, true, true, true, true, true, true, false, false, false, false, false, false, false, false, false, false] rfl rfl (by kernel_rfl) (by decide) (fun K hK => ?_)
   refine goesV_ Tryz.func70 (by kernel_rfl) rfl #[.slice A n c] (cap := #[.pointer (some ⟨b1, 0, none⟩)]) (by rfl) rfl rfl (by rfl) (by simp only [List.map_toArray, List.map_cons, List.map_nil]; rfl) (all := #[.slice A n c, .pointer (some ⟨b1, 0, none⟩)]) rfl ?_
   with_reducible refine (any1_at (l.take n) n (by rw [List.length_take]; omega) A c b1 w.heap.size [18] _ (Kd.C_take (Kd.C_below HR.out HB3.out) h1) (by rw [List.length_take]; have := HC.out; omega) HA1.out).mono ?_
   rintro e w4 ⟨rfl, hbb⟩
   refine ⟨_, rfl, ?_⟩
   rw [HA.out]
   have HB4 := Aside0.mk (below_step HB3.out hbb)
   clear hbb
   refine hK.out _ _ (pw_cell_below HB4.out hcell) (fun hHeld => ?_)
   clear hK K
   refine norm_ (a' := ?_) ?_ ?_
   rotate_left
   ·show Act.put _ (some 14) _ = _
    simp only [Act.put, List.setIfInBounds_toArray, List.set_cons_zero, List.set_cons_succ, i64_w, i32_w]
    rfl
   refine pure_ (i := 11) (N := some 15) (v := ?_) (a' := ?_) #[true, true, true, true, true, true, true, true, true, true, true, true, false, false, false, false, false, false, false, false, false] rfl rfl (by kernel_rfl) (fun _ _ _ h => h) (Or.inl ⟨by rfl, ?_⟩) ?_ ?_
   rotate_left
   ·intro w'
    go_simp
    with_reducible rfl
   rotate_left
   ·simp only [Act.put, List.setIfInBounds_toArray, List.set_cons_zero, List.set_cons_succ, i64_w, i32_w]
    rfl
   refine pure_ (i := 12) (N := some 16) (v := ?_) (a' := ?_) #[true, true, true, true, true, true, true, true, true, true, true, true, true, false, false, false, false, false, false, false, false] rfl rfl (by kernel_rfl) (fun _ _ _ h => h) (Or.inl ⟨by rfl, ?_⟩) ?_ ?_
   rotate_left
   ·intro w'
    go_simp
    with_reducible rfl
   rotate_left
   ·simp only [Act.put, List.setIfInBounds_toArray, List.set_cons_zero, List.set_cons_succ, i64_w, i32_w]
    rfl
   refine pure_ (i := 15) (N := some 19) (v := ?_) (a' := ?_) #[true, true, true, true, true, true, true, true, true, true, true, true, true, false, false, true, false, false, false, false, false] rfl rfl (by kernel_rfl) (fun _ _ _ h => h) (Or.inl ⟨by rfl, ?_⟩) ?_ ?_
   rotate_left
   ·intro w'
    go_simp
    with_reducible rfl
   rotate_left
   ·simp only [Act.put, List.setIfInBounds_toArray, List.set_cons_zero, List.set_cons_succ, i64_w, i32_w]
    rfl
   refine take_ (i := 16) (N := some 20) (v := ?_) (a' := ?_) #[true, true, true, true, true, true, true, true, true, true, true, true, true, false, false, true, true, false, false, false, false] rfl rfl (by kernel_rfl) (fun _ _ _ h => h) (Or.inl ⟨by rfl, ?_⟩) hHeld ?_ ?_
   rotate_left
   ·intro w' s0
    go_simp
    with_reducible rfl
   rotate_left
   ·simp only [Act.put, List.setIfInBounds_toArray, List.set_cons_zero, List.set_cons_succ, i64_w, i32_w]
    rfl
   refine pure_ (i := 17) (N := some 21) (v := ?_) (a' := ?_) #[true, true, true, true, true, true, true, true, true, true, true, true, true, false, false, true, true, true, false, false, false] rfl rfl (by kernel_rfl) (fun _ _ _ h => h) (Or.inl ⟨by rfl, ?_⟩) ?_ ?_
   rotate_left
   ·intro w'
    go_simp
    with_reducible rfl
   rotate_left
   ·simp only [Act.put, List.setIfInBounds_toArray, List.set_cons_zero, List.set_cons_succ, i64_w, i32_w]
    rfl
   refine one_ (i := 13) (N := some 17) #[true, true, true, true, true, true, true, true, true, true, true, true, true, true, false, true, true, true, false, false, false] rfl rfl (by kernel_rfl) (by decide) (fun K hK => ?_)
   refine value_ (w1 := ?_) (v := ?_) (by rfl) rfl ?_ ?_
   rotate_left 2
   ·go_simp
    constructor
    ·rfl
    ·rfl
   refine hK.out _ _ (pw_cell_below (below_alloc HB4.out _) hcell) (fun hHeld => ?_)
   clear hK K
   refine norm_ (a' := ?_) ?_ ?_
   rotate_left
   ·show Act.put _ (some 17) _ = _
    simp only [Act.put, List.setIfInBounds_toArray, List.set_cons_zero, List.set_cons_succ, i64_w, i32_w]
    rfl
   refine one_ (i := 14) (N := some 18) #[true, true, true, true, true, true, true, true, true, true, true, true, true, true, true, true, true, true, false, false, false] rfl rfl (by kernel_rfl) (by decide) (fun K hK => ?_)
   refine goes_ Tryz.func37 (by kernel_rfl) rfl #[.slice (some ⟨w4.heap.size, 0, none⟩) 1 1] (by rfl) rfl rfl (by simp only [List.map_toArray, List.map_cons, List.map_nil]; rfl) ?_
   with_reducible refine (anyOf_one w4.heap.size 4 _ (ints_one w4 4)).mono ?_
   rintro e w5 ⟨b2, rfl, hat, hbb⟩
   refine ⟨_, rfl, ?_⟩
   have HA2 := Aside0.mk hat
   have HB5 := Aside0.mk (below_step (below_alloc HB4.out (.cells #[.int .i64 4] 3)) hbb)
   clear hat hbb
   refine hK.out _ _ (pw_cell_below HB5.out hcell) (fun hHeld => ?_)
   clear hK K
   refine norm_ (a' := ?_) ?_ ?_
   rotate_left
   ·show Act.put _ (some 18) _ = _
    simp only [Act.put, List.setIfInBounds_toArray, List.set_cons_zero, List.set_cons_succ, i64_w, i32_w]
    rfl
   refine one_ (i := 18) (N := some 22) #[true, true, true, true, true, true, true, true, true, true, true, true, true, true, true, true, true, true, true, false, false] rfl rfl (by kernel_rfl) (by decide) (fun K hK => ?_)
   refine goesV_ Tryz.func70 (by kernel_rfl) rfl #[.slice A' (l.length - n) (c - n)] (cap := #[.pointer (some ⟨b2, 0, none⟩)]) (by rfl) rfl rfl (by rfl) (by simp only [List.map_toArray, List.map_cons, List.map_nil]; rfl) (all := #[.slice A' (l.length - n) (c - n), .pointer (some ⟨b2, 0, none⟩)]) rfl ?_
   with_reducible refine (any1_at (l.drop n) (l.length - n) List.length_drop A' (c - n) b2 w4.heap.size [4] _ (HC'.out _ (Kd.C_below HR.out HB5.out)) (by rw [List.length_drop]; have := HC.out; omega) HA2.out).mono ?_
   rintro e w6 ⟨rfl, hbb⟩
   refine ⟨_, rfl, ?_⟩
   have HB6 := Aside0.mk (below_step HB5.out hbb)
   clear hbb
   refine hK.out _ _ (pw_cell_below HB6.out hcell) (fun hHeld => ?_)
   clear hK K
   refine norm_ (a' := ?_) ?_ ?_
   rotate_left
   ·show Act.put _ (some 22) _ = _
    simp only [Act.put, List.setIfInBounds_toArray, List.set_cons_zero, List.set_cons_succ, i64_w, i32_w]
    rfl
   refine pure_ (i := 19) (N := some 23) (v := ?_) (a' := ?_) #[true, true, true, true, true, true, true, true, true, true, true, true, true, true, true, true, true, true, true, true, false] rfl rfl (by kernel_rfl) (fun _ _ _ h => h) (Or.inl ⟨by rfl, ?_⟩) ?_ ?_
   rotate_left
   ·intro w'
    go_simp
    with_reducible rfl
   rotate_left
   ·simp only [Act.put, List.setIfInBounds_toArray, List.set_cons_zero, List.set_cons_succ, i64_w, i32_w]
    rfl
   refine pure_ (i := 20) (N := some 3) (v := ?_) (a' := ?_) #[true, true, true, true, true, true, true, true, true, true, true, true, true, true, true, true, true, true, true, true, true] rfl rfl (by kernel_rfl) (fun _ _ _ h => h) (Or.inl ⟨by rfl, ?_⟩) ?_ ?_
   rotate_left
   ·intro w'
    go_simp
    with_reducible rfl
   rotate_left
   ·simp only [Act.put, List.setIfInBounds_toArray, List.set_cons_zero, List.set_cons_succ, i64_w, i32_w]
    rfl
   refine done_ (by kernel_rfl) ?_
   go_wp2
   go_ret
   exact ⟨by rw [hF.out]; simp, HB6.out⟩
 ·have h1b : decide ((n : Int) ≤ (l.length : Int)) = false := decide_eq_false (by omega)
  have hF : Aside0 (typedIn n l = false) := ⟨by simp [typedIn, h1]⟩
  go_enter Tryz.func80, Tryz.ntmps80
  go_wp2
  go_quiet (fail)
  go_wp2
  go_ret
  exact ⟨by rw [hF.out]; rfl, pw_below_drewN (Below.refl _ _) _⟩
end Go.Proofs.YtdkepckkihclgaaGreatDoor.PNodeChecks

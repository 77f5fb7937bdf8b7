import Derived.Test.YtdkepckkihclgaaGreatDoorM1
import Derived.Test.YtdkepckkihclgaaGreatDoorProg
import Derived.Below
import Derived.Deep.Draws
import Derived.Deep.AppendLies
import Derived.Maps.AppendAt
import Derived.OwnWalk
import Derived.Laws.BytesArg
import Derived.Laws.MakeOwn
import Derived.Laws.OwnMore
import Derived.Deep.OwnRows
import Derived.Tactics
import Derived.Lib.ConvBytes
import Derived.Laws.Slices
import Derived.WalkKit
import Derived.KernelRfl
import Derived.RowKit3
import Derived.Deep.LoopGhost
import Derived.Deep.QuietTactic
import Derived.BigQuiet
import Derived.WideLaws
import Derived.Deep.DeepCutAuto
import Derived.Deep.CutBlock
import Derived.Deep.RegionHeld3
import Derived.Laws.Rows
import Derived.Lib.AppendStr
import Derived.ArgAppend
import Derived.Laws.IdiomCopy
import Derived.OrdersHeld
import Derived.Laws.BitsLemmas
import Derived.RowKit
import Derived.Shelf.Small.Strs
import Derived.Shelf.Small.Wraps
import Derived.Shelf.Strings.Search1
import Derived.Shelf.Strings.Search2
import Derived.Shelf.Strings.Search3
import Derived.Shelf.Strings.Cut
import Derived.Shelf.LaysM
import Derived.Shelf.Strings.Shaped
import Derived.Shelf.Strings.Prefix
import Derived.Shelf.Unicode.Decode
import Derived.Shelf.Unicode.DecodeSlow
import Derived.Shelf.Unicode.DecodeAny
import Derived.Shelf.Slices.Turned
namespace Go.Proofs.YtdkepckkihclgaaGreatDoor.PNodeChecks
open Go.RowKit Go.Proofs.YtdkepckkihclgaaGreatDoorW.PrintWords Go.Proofs.YtdkepckkihclgaaGreatDoorW.PrintLast Go.Proofs.YtdkepckkihclgaaGreatDoorW.PrintMore
attribute [local go_sem] max2_int min2_int max_two min_two max_three min_three max_four min_four   -- for this text's walks alone
set_option linter.unusedVariables false
set_option linter.unusedSimpArgs false
def errW : Option Int → Value
 | none => .nilIface
 | some c => .iface 0 (.int .i64 c)
theorem errW_none : errW none = .nilIface := rfl
theorem errW_some (c : Int) : errW (some c) = .iface 0 (.int .i64 c) := rfl
theorem info9 : (Tryz.prog.info? 9).map (fun i => (i.zero, i.size, i.bytes)) = some (some (.string ⟨#[]⟩), 1, 16) := by kernel_rfl
structure S24 where
 f0 : Int
 f1 : ByteArray
 f2 : Int
 f3 : Int
 f4 : Int
 f5 : Int
 f6 : ByteArray
 f7 : (List S24)
def z24 : S24 := ⟨(0 : Int), (⟨#[]⟩ : ByteArray), (0 : Int), (0 : Int), (0 : Int), (0 : Int), (⟨#[]⟩ : ByteArray), ([] : List S24)⟩
def F24 (d : Kd S24) : Kd S24 := Kd.iso (Kd.pair (Kd.int .i64) (Kd.pair Kd.string (Kd.pair (Kd.int .i64) (Kd.pair (Kd.int .i64) (Kd.pair (Kd.int .i64) (Kd.pair (Kd.int .i64) (Kd.pair Kd.string (Kd.slice 24 d)))))))) (fun x : S24 => (x.f0, x.f1, x.f2, x.f3, x.f4, x.f5, x.f6, x.f7))
theorem mono24 : Kd.Mono F24 := Kd.mono_iso _ (Kd.mono_pair (Kd.mono_const _) (Kd.mono_pair (Kd.mono_const _) (Kd.mono_pair (Kd.mono_const _) (Kd.mono_pair (Kd.mono_const _) (Kd.mono_pair (Kd.mono_const _) (Kd.mono_pair (Kd.mono_const _) (Kd.mono_pair (Kd.mono_const _) (Kd.mono_slice 24 Kd.mono_id))))))))
theorem sub24 : Kd.Sub F24 [24] := Kd.sub_iso _ (Kd.sub_pair (Kd.sub_const _ (by decide)) (Kd.sub_pair (Kd.sub_const _ (by decide)) (Kd.sub_pair (Kd.sub_const _ (by decide)) (Kd.sub_pair (Kd.sub_const _ (by decide)) (Kd.sub_pair (Kd.sub_const _ (by decide)) (Kd.sub_pair (Kd.sub_const _ (by decide)) (Kd.sub_pair (Kd.sub_const _ (by decide)) (Kd.sub_slice 24 (by decide) Kd.sub_id))))))))
theorem sz24 : ∀ n, (Kd.upto F24 8 [24] n).sz = 8 := Kd.upto_sz (fun _ => rfl)
def k24 : Kd S24 := Kd.fix F24 8 [24] sz24 (Kd.upto_E sub24)
theorem k24_open {w : World} {x : S24} {cs : List Value} (h : k24.K w x cs) : ∃ A7 c7, cs = [.int .i64 x.f0, .string x.f1, .int .i64 x.f2, .int .i64 x.f3, .int .i64 x.f4, .int .i64 x.f5, .string x.f6, .slice A7 x.f7.length c7] ∧ x.f7.length ≤ c7 ∧ k24.C w A7 x.f7.length x.f7 := by
 obtain ⟨n, h⟩ := h
 cases n with
 | zero => exact h.elim
 | succ n =>
  obtain ⟨_, _, rfl, rfl, ⟨_, _, rfl, rfl, ⟨_, _, rfl, rfl, ⟨_, _, rfl, rfl, ⟨_, _, rfl, rfl, ⟨_, _, rfl, rfl, ⟨_, _, rfl, rfl, ⟨A7, c7, rfl, l7, g7⟩⟩⟩⟩⟩⟩⟩⟩ := h
  exact ⟨A7, c7, rfl, l7, Kd.fix_C g7⟩
theorem k24_mk (w : World) (x : S24) {A7 : Option Addr} {c7 : Nat} (l7 : x.f7.length ≤ c7) (g7 : k24.C w A7 x.f7.length x.f7) : k24.K w x [.int .i64 x.f0, .string x.f1, .int .i64 x.f2, .int .i64 x.f3, .int .i64 x.f4, .int .i64 x.f5, .string x.f6, .slice A7 x.f7.length c7] := by
 obtain ⟨n7, q7⟩ := Kd.fix_C_back mono24 g7
 have r7 := Kd.upto_C_le mono24 sz24 (show n7 ≤ n7 by omega) q7
 exact ⟨n7 + 1, ⟨[.int .i64 x.f0], [.string x.f1, .int .i64 x.f2, .int .i64 x.f3, .int .i64 x.f4, .int .i64 x.f5, .string x.f6, .slice A7 x.f7.length c7], rfl, rfl, ⟨[.string x.f1], [.int .i64 x.f2, .int .i64 x.f3, .int .i64 x.f4, .int .i64 x.f5, .string x.f6, .slice A7 x.f7.length c7], rfl, rfl, ⟨[.int .i64 x.f2], [.int .i64 x.f3, .int .i64 x.f4, .int .i64 x.f5, .string x.f6, .slice A7 x.f7.length c7], rfl, rfl, ⟨[.int .i64 x.f3], [.int .i64 x.f4, .int .i64 x.f5, .string x.f6, .slice A7 x.f7.length c7], rfl, rfl, ⟨[.int .i64 x.f4], [.int .i64 x.f5, .string x.f6, .slice A7 x.f7.length c7], rfl, rfl, ⟨[.int .i64 x.f5], [.string x.f6, .slice A7 x.f7.length c7], rfl, rfl, ⟨[.string x.f6], [.slice A7 x.f7.length c7], rfl, rfl, ⟨A7, c7, rfl, l7, r7⟩⟩⟩⟩⟩⟩⟩⟩⟩
theorem k24_mkM (w : World) (base : Nat) (ok : Nat → Prop) (x : S24) {v7 : Value} (g7 : k24.R 24 w base ok v7 x.f7) : k24.M w base ok x [.int .i64 x.f0, .string x.f1, .int .i64 x.f2, .int .i64 x.f3, .int .i64 x.f4, .int .i64 x.f5, .string x.f6, v7] := by
 obtain ⟨n7, q7⟩ := Kd.fix_R_back mono24 g7
 have r7 := Kd.upto_R_le mono24 sz24 (show n7 ≤ n7 by omega) q7
 exact ⟨n7 + 1, ⟨[.int .i64 x.f0], [.string x.f1, .int .i64 x.f2, .int .i64 x.f3, .int .i64 x.f4, .int .i64 x.f5, .string x.f6, v7], rfl, rfl, ⟨[.string x.f1], [.int .i64 x.f2, .int .i64 x.f3, .int .i64 x.f4, .int .i64 x.f5, .string x.f6, v7], rfl, rfl, ⟨[.int .i64 x.f2], [.int .i64 x.f3, .int .i64 x.f4, .int .i64 x.f5, .string x.f6, v7], rfl, rfl, ⟨[.int .i64 x.f3], [.int .i64 x.f4, .int .i64 x.f5, .string x.f6, v7], rfl, rfl, ⟨[.int .i64 x.f4], [.int .i64 x.f5, .string x.f6, v7], rfl, rfl, ⟨[.int .i64 x.f5], [.string x.f6, v7], rfl, rfl, ⟨[.string x.f6], [v7], rfl, rfl, ⟨v7, rfl, r7⟩⟩⟩⟩⟩⟩⟩⟩⟩
def rd_T24 (xs : List S24) (i : Int) : S24 := xs.getD i.toNat z24
theorem at_T24 {w : World} {A : Option Addr} {n : Nat} {xs : List S24} (h : Kd.C k24 w A n xs) (i : Int) (h0 : 0 ≤ i) (h1 : i < n) : ∃ ad A7 c7, A = some ad ∧ w.cell? (ad.add (i.toNat * 8)) = some (.int .i64 (rd_T24 xs i).f0) ∧ w.cell? ⟨(ad.add (i.toNat * 8)).block, (ad.add (i.toNat * 8)).off + 1, none⟩ = some (.string (rd_T24 xs i).f1) ∧ w.cell? ⟨(ad.add (i.toNat * 8)).block, (ad.add (i.toNat * 8)).off + 2, none⟩ = some (.int .i64 (rd_T24 xs i).f2) ∧ w.cell? ⟨(ad.add (i.toNat * 8)).block, (ad.add (i.toNat * 8)).off + 3, none⟩ = some (.int .i64 (rd_T24 xs i).f3) ∧ w.cell? ⟨(ad.add (i.toNat * 8)).block, (ad.add (i.toNat * 8)).off + 4, none⟩ = some (.int .i64 (rd_T24 xs i).f4) ∧ w.cell? ⟨(ad.add (i.toNat * 8)).block, (ad.add (i.toNat * 8)).off + 5, none⟩ = some (.int .i64 (rd_T24 xs i).f5) ∧ w.cell? ⟨(ad.add (i.toNat * 8)).block, (ad.add (i.toNat * 8)).off + 6, none⟩ = some (.string (rd_T24 xs i).f6) ∧ w.cell? ⟨(ad.add (i.toNat * 8)).block, (ad.add (i.toNat * 8)).off + 7, none⟩ = some (.slice A7 (rd_T24 xs i).f7.length c7) ∧ (rd_T24 xs i).f7.length ≤ c7 ∧ k24.C w A7 (rd_T24 xs i).f7.length (rd_T24 xs i).f7 := by
 obtain ⟨ad, c, e, _, hK, hc0⟩ := Kd.C_get h z24 i h0 h1
 have hc : ∀ j u, c[j]? = some u → w.cell? (ad.add (i.toNat * 8 + j)) = some u := hc0
 obtain ⟨A7, c7, rfl, l7, g7⟩ := k24_open hK
 exact ⟨ad, A7, c7, e, hc 0 _ rfl, by rw [← add_field _ _ 1 (by omega)]; exact hc 1 _ rfl, by rw [← add_field _ _ 2 (by omega)]; exact hc 2 _ rfl, by rw [← add_field _ _ 3 (by omega)]; exact hc 3 _ rfl, by rw [← add_field _ _ 4 (by omega)]; exact hc 4 _ rfl, by rw [← add_field _ _ 5 (by omega)]; exact hc 5 _ rfl, by rw [← add_field _ _ 6 (by omega)]; exact hc 6 _ rfl, by rw [← add_field _ _ 7 (by omega)]; exact hc 7 _ rfl, l7, g7⟩
theorem cells8 {w : World} {g : Nat} {t : TypeId} {v0 v1 v2 v3 v4 v5 v6 v7 : Value} (h : w.heap[g]? = some (.cells #[v0, v1, v2, v3, v4, v5, v6, v7] t (0, 0))) :
  w.cell? ⟨g, 0, none⟩ = some v0 ∧ w.frozen? ⟨g, 0, none⟩ = false ∧ w.cell? ⟨g, 1, none⟩ = some v1 ∧ w.frozen? ⟨g, 1, none⟩ = false ∧ w.cell? ⟨g, 2, none⟩ = some v2 ∧ w.frozen? ⟨g, 2, none⟩ = false ∧ w.cell? ⟨g, 3, none⟩ = some v3 ∧ w.frozen? ⟨g, 3, none⟩ = false ∧ w.cell? ⟨g, 4, none⟩ = some v4 ∧ w.frozen? ⟨g, 4, none⟩ = false ∧ w.cell? ⟨g, 5, none⟩ = some v5 ∧ w.frozen? ⟨g, 5, none⟩ = false ∧ w.cell? ⟨g, 6, none⟩ = some v6 ∧ w.frozen? ⟨g, 6, none⟩ = false ∧ w.cell? ⟨g, 7, none⟩ = some v7 ∧ w.frozen? ⟨g, 7, none⟩ = false :=
 ⟨(blk_cell h 0).trans rfl, blk_frozen h 0, (blk_cell h 1).trans rfl, blk_frozen h 1, (blk_cell h 2).trans rfl, blk_frozen h 2, (blk_cell h 3).trans rfl, blk_frozen h 3, (blk_cell h 4).trans rfl, blk_frozen h 4, (blk_cell h 5).trans rfl, blk_frozen h 5, (blk_cell h 6).trans rfl, blk_frozen h 6, (blk_cell h 7).trans rfl, blk_frozen h 7⟩
theorem put8 (w : World) (g : Nat) (v0 v1 v2 v3 v4 v5 v6 v7 : Value) : ∃ wq, ((((((((w.setCell ⟨g, 0, none⟩ v0).setCell ⟨g, 1, none⟩ v1).setCell ⟨g, 2, none⟩ v2).setCell ⟨g, 3, none⟩ v3).setCell ⟨g, 4, none⟩ v4).setCell ⟨g, 5, none⟩ v5).setCell ⟨g, 6, none⟩ v6).setCell ⟨g, 7, none⟩ v7) = wq ∧
  (∀ w0 : World, Below w0.heap.size w0 w → w0.heap.size ≤ g → Below w0.heap.size w0 wq) ∧
  (∀ (g' : Nat) (t : TypeId) (cs : Array Value), g' ≠ g → w.heap[g']? = some (.cells cs t (0, 0)) → wq.heap[g']? = some (.cells cs t (0, 0))) ∧
  (∀ (t : TypeId) (z0 z1 z2 z3 z4 z5 z6 z7 : Value), w.heap[g]? = some (.cells #[z0, z1, z2, z3, z4, z5, z6, z7] t (0, 0)) → wq.heap[g]? = some (.cells #[v0, v1, v2, v3, v4, v5, v6, v7] t (0, 0))) := by
 refine ⟨_, rfl, fun w0 h hg => (below_set (below_set (below_set (below_set (below_set (below_set (below_set (below_set h hg (j := 0)) hg (j := 1)) hg (j := 2)) hg (j := 3)) hg (j := 4)) hg (j := 5)) hg (j := 6)) hg (j := 7)), fun g' t cs hne hx => (blk_far (p := ⟨g, 7, none⟩) (blk_far (p := ⟨g, 6, none⟩) (blk_far (p := ⟨g, 5, none⟩) (blk_far (p := ⟨g, 4, none⟩) (blk_far (p := ⟨g, 3, none⟩) (blk_far (p := ⟨g, 2, none⟩) (blk_far (p := ⟨g, 1, none⟩) (blk_far (p := ⟨g, 0, none⟩) hx hne _) hne _) hne _) hne _) hne _) hne _) hne _) hne _), ?_⟩
 intro t z0 z1 z2 z3 z4 z5 z6 z7 p
 replace p : (w.setCell ⟨g, 0, none⟩ v0).heap[g]? = some (.cells #[v0, z1, z2, z3, z4, z5, z6, z7] t (0, 0)) := blk_put p 0 _ rfl
 replace p : ((w.setCell ⟨g, 0, none⟩ v0).setCell ⟨g, 1, none⟩ v1).heap[g]? = some (.cells #[v0, v1, z2, z3, z4, z5, z6, z7] t (0, 0)) := blk_put p 1 _ rfl
 replace p : (((w.setCell ⟨g, 0, none⟩ v0).setCell ⟨g, 1, none⟩ v1).setCell ⟨g, 2, none⟩ v2).heap[g]? = some (.cells #[v0, v1, v2, z3, z4, z5, z6, z7] t (0, 0)) := blk_put p 2 _ rfl
 replace p : ((((w.setCell ⟨g, 0, none⟩ v0).setCell ⟨g, 1, none⟩ v1).setCell ⟨g, 2, none⟩ v2).setCell ⟨g, 3, none⟩ v3).heap[g]? = some (.cells #[v0, v1, v2, v3, z4, z5, z6, z7] t (0, 0)) := blk_put p 3 _ rfl
 replace p : (((((w.setCell ⟨g, 0, none⟩ v0).setCell ⟨g, 1, none⟩ v1).setCell ⟨g, 2, none⟩ v2).setCell ⟨g, 3, none⟩ v3).setCell ⟨g, 4, none⟩ v4).heap[g]? = some (.cells #[v0, v1, v2, v3, v4, z5, z6, z7] t (0, 0)) := blk_put p 4 _ rfl
 replace p : ((((((w.setCell ⟨g, 0, none⟩ v0).setCell ⟨g, 1, none⟩ v1).setCell ⟨g, 2, none⟩ v2).setCell ⟨g, 3, none⟩ v3).setCell ⟨g, 4, none⟩ v4).setCell ⟨g, 5, none⟩ v5).heap[g]? = some (.cells #[v0, v1, v2, v3, v4, v5, z6, z7] t (0, 0)) := blk_put p 5 _ rfl
 replace p : (((((((w.setCell ⟨g, 0, none⟩ v0).setCell ⟨g, 1, none⟩ v1).setCell ⟨g, 2, none⟩ v2).setCell ⟨g, 3, none⟩ v3).setCell ⟨g, 4, none⟩ v4).setCell ⟨g, 5, none⟩ v5).setCell ⟨g, 6, none⟩ v6).heap[g]? = some (.cells #[v0, v1, v2, v3, v4, v5, v6, z7] t (0, 0)) := blk_put p 6 _ rfl
 replace p : ((((((((w.setCell ⟨g, 0, none⟩ v0).setCell ⟨g, 1, none⟩ v1).setCell ⟨g, 2, none⟩ v2).setCell ⟨g, 3, none⟩ v3).setCell ⟨g, 4, none⟩ v4).setCell ⟨g, 5, none⟩ v5).setCell ⟨g, 6, none⟩ v6).setCell ⟨g, 7, none⟩ v7).heap[g]? = some (.cells #[v0, v1, v2, v3, v4, v5, v6, v7] t (0, 0)) := blk_put p 7 _ rfl
 exact p
theorem cells5 {w : World} {g : Nat} {t : TypeId} {v0 v1 v2 v3 v4 : Value} (h : w.heap[g]? = some (.cells #[v0, v1, v2, v3, v4] t (0, 0))) :
  w.cell? ⟨g, 0, none⟩ = some v0 ∧ w.frozen? ⟨g, 0, none⟩ = false ∧ w.cell? ⟨g, 1, none⟩ = some v1 ∧ w.frozen? ⟨g, 1, none⟩ = false ∧ w.cell? ⟨g, 2, none⟩ = some v2 ∧ w.frozen? ⟨g, 2, none⟩ = false ∧ w.cell? ⟨g, 3, none⟩ = some v3 ∧ w.frozen? ⟨g, 3, none⟩ = false ∧ w.cell? ⟨g, 4, none⟩ = some v4 ∧ w.frozen? ⟨g, 4, none⟩ = false :=
 ⟨(blk_cell h 0).trans rfl, blk_frozen h 0, (blk_cell h 1).trans rfl, blk_frozen h 1, (blk_cell h 2).trans rfl, blk_frozen h 2, (blk_cell h 3).trans rfl, blk_frozen h 3, (blk_cell h 4).trans rfl, blk_frozen h 4⟩
theorem put5 (w : World) (g : Nat) (v0 v1 v2 v3 v4 : Value) : ∃ wq, (((((w.setCell ⟨g, 0, none⟩ v0).setCell ⟨g, 1, none⟩ v1).setCell ⟨g, 2, none⟩ v2).setCell ⟨g, 3, none⟩ v3).setCell ⟨g, 4, none⟩ v4) = wq ∧
  (∀ w0 : World, Below w0.heap.size w0 w → w0.heap.size ≤ g → Below w0.heap.size w0 wq) ∧
  (∀ (g' : Nat) (t : TypeId) (cs : Array Value), g' ≠ g → w.heap[g']? = some (.cells cs t (0, 0)) → wq.heap[g']? = some (.cells cs t (0, 0))) ∧
  (∀ (t : TypeId) (z0 z1 z2 z3 z4 : Value), w.heap[g]? = some (.cells #[z0, z1, z2, z3, z4] t (0, 0)) → wq.heap[g]? = some (.cells #[v0, v1, v2, v3, v4] t (0, 0))) := by
 refine ⟨_, rfl, fun w0 h hg => (below_set (below_set (below_set (below_set (below_set h hg (j := 0)) hg (j := 1)) hg (j := 2)) hg (j := 3)) hg (j := 4)), fun g' t cs hne hx => (blk_far (p := ⟨g, 4, none⟩) (blk_far (p := ⟨g, 3, none⟩) (blk_far (p := ⟨g, 2, none⟩) (blk_far (p := ⟨g, 1, none⟩) (blk_far (p := ⟨g, 0, none⟩) hx hne _) hne _) hne _) hne _) hne _), ?_⟩
 intro t z0 z1 z2 z3 z4 p
 replace p : (w.setCell ⟨g, 0, none⟩ v0).heap[g]? = some (.cells #[v0, z1, z2, z3, z4] t (0, 0)) := blk_put p 0 _ rfl
 replace p : ((w.setCell ⟨g, 0, none⟩ v0).setCell ⟨g, 1, none⟩ v1).heap[g]? = some (.cells #[v0, v1, z2, z3, z4] t (0, 0)) := blk_put p 1 _ rfl
 replace p : (((w.setCell ⟨g, 0, none⟩ v0).setCell ⟨g, 1, none⟩ v1).setCell ⟨g, 2, none⟩ v2).heap[g]? = some (.cells #[v0, v1, v2, z3, z4] t (0, 0)) := blk_put p 2 _ rfl
 replace p : ((((w.setCell ⟨g, 0, none⟩ v0).setCell ⟨g, 1, none⟩ v1).setCell ⟨g, 2, none⟩ v2).setCell ⟨g, 3, none⟩ v3).heap[g]? = some (.cells #[v0, v1, v2, v3, z4] t (0, 0)) := blk_put p 3 _ rfl
 replace p : (((((w.setCell ⟨g, 0, none⟩ v0).setCell ⟨g, 1, none⟩ v1).setCell ⟨g, 2, none⟩ v2).setCell ⟨g, 3, none⟩ v3).setCell ⟨g, 4, none⟩ v4).heap[g]? = some (.cells #[v0, v1, v2, v3, v4] t (0, 0)) := blk_put p 4 _ rfl
 exact p
end Go.Proofs.YtdkepckkihclgaaGreatDoor.PNodeChecks
namespace Go.Proofs
open Go.Shelf
def Tryz.lays137_ren : Go.Shelf.Ren := ⟨fun | 137 => 98 | 217 => 108 | 266 => 113 | n => n, fun | 9 => 9 | 5 => 5 | 3 => 3 | n => n, fun | n => n⟩
theorem Tryz.lays137 : Go.Proofs.Lays.n137 Tryz.prog Tryz.lays137_ren := {
 mixed := by kernel_rfl
 f137 := Tryz.func98.trans (congrArg some (by kernel_rfl))
 f217 := Tryz.func108.trans (congrArg some (by kernel_rfl))
 f266 := Tryz.func113.trans (congrArg some (by kernel_rfl))
 t3 := Tryz.underlying3
 a3 := Tryz.isAgg3
 z3 := Tryz.sizeOf3
 v3 := Tryz.zeroValue3
 t5 := Tryz.underlying5
 a5 := Tryz.isAgg5
 z5 := Tryz.sizeOf5
 v5 := Tryz.zeroValue5
 t9 := Tryz.underlying9
 a9 := Tryz.isAgg9
 z9 := Tryz.sizeOf9
 v9 := Tryz.zeroValue9 }
open Go.RowKit in
theorem Tryz.strings_IndexByte (s : ByteArray) (c : Int) (w : World) :
  Calls Tryz.prog 98 #[.string s, .int .u8 c] w fun e w' => e = .returned (.int .i64 (Lib.indexByte s.data.toList c.toNat.toUInt8)) ∧ w' = w := Any.strings_IndexByte Tryz.lays137 s c w
def Tryz.lays103_ren : Go.Shelf.Ren := ⟨fun | 103 => 81 | 210 => 100 | 206 => 95 | n => n, fun | 9 => 9 | 4 => 4 | 24 => 60 | 3 => 3 | n => n, fun | n => n⟩
theorem Tryz.lays103 : Go.Proofs.Lays.n103 Tryz.prog Tryz.lays103_ren := {
 mixed := by kernel_rfl
 f103 := Tryz.func81.trans (congrArg some (by kernel_rfl))
 f206 := Tryz.func95.trans (congrArg some (by kernel_rfl))
 f210 := Tryz.func100.trans (congrArg some (by kernel_rfl))
 t3 := Tryz.underlying3
 a3 := Tryz.isAgg3
 z3 := Tryz.sizeOf3
 v3 := Tryz.zeroValue3
 t4 := Tryz.underlying4
 a4 := Tryz.isAgg4
 z4 := Tryz.sizeOf4
 v4 := Tryz.zeroValue4
 t9 := Tryz.underlying9
 a9 := Tryz.isAgg9
 z9 := Tryz.sizeOf9
 v9 := Tryz.zeroValue9
 t24 := Tryz.underlying60
 a24 := Tryz.isAgg60
 z24 := Tryz.sizeOf60
 v24 := Tryz.zeroValue60 }
open Go.RowKit in
theorem Tryz.strings_CutPrefix (s p : ByteArray) (w : World) :
  Calls Tryz.prog 81 #[.string s, .string p] w fun e w' => e = .returned (.tuple #[.string ⟨(Lib.trimPrefix s.data.toList p.data.toList).toArray⟩, .bool (Lib.hasPrefix s.data.toList p.data.toList)]) ∧ w' = w := Any.strings_CutPrefix Tryz.lays103 s p w
def Tryz.lays143_ren : Go.Shelf.Ren := ⟨fun | 143 => 105 | 219 => 107 | 217 => 108 | 225 => 110 | 224 => 111 | 267 => 112 | 266 => 113 | 314 => 114 | n => n, fun | 9 => 9 | 3 => 3 | 4 => 4 | 5 => 5 | 46 => 82 | 146 => 88 | 51 => 87 | n => n, fun | 1 => 0 | n => n⟩
theorem Tryz.lays143 : Go.Proofs.Lays.n143 Tryz.prog Tryz.lays143_ren := {
 mixed := by kernel_rfl
 f143 := Tryz.func105.trans (congrArg some (by kernel_rfl))
 f217 := Tryz.func108.trans (congrArg some (by kernel_rfl))
 f219 := Tryz.func107.trans (congrArg some (by kernel_rfl))
 f224 := Tryz.func111.trans (congrArg some (by kernel_rfl))
 f225 := Tryz.func110.trans (congrArg some (by kernel_rfl))
 f266 := Tryz.func113.trans (congrArg some (by kernel_rfl))
 f267 := Tryz.func112.trans (congrArg some (by kernel_rfl))
 f314 := Tryz.func114.trans (congrArg some (by kernel_rfl))
 t3 := Tryz.underlying3
 a3 := Tryz.isAgg3
 z3 := Tryz.sizeOf3
 v3 := Tryz.zeroValue3
 t4 := Tryz.underlying4
 a4 := Tryz.isAgg4
 z4 := Tryz.sizeOf4
 v4 := Tryz.zeroValue4
 t5 := Tryz.underlying5
 a5 := Tryz.isAgg5
 z5 := Tryz.sizeOf5
 v5 := Tryz.zeroValue5
 t9 := Tryz.underlying9
 a9 := Tryz.isAgg9
 z9 := Tryz.sizeOf9
 v9 := Tryz.zeroValue9
 t46 := Tryz.underlying82
 a46 := Tryz.isAgg82
 z46 := Tryz.sizeOf82
 v46 := Tryz.zeroValue82
 t51 := Tryz.underlying87
 a51 := Tryz.isAgg87
 z51 := Tryz.sizeOf87
 v51 := Tryz.zeroValue87
 t146 := Tryz.underlying88
 a146 := Tryz.isAgg88
 z146 := Tryz.sizeOf88
 v146 := Tryz.zeroValue88
 g1 := by kernel_rfl }
open Go.RowKit Go.Lib in
theorem Tryz.strings_Index_one (s : ByteArray) (c : UInt8) (w : World) :
  Calls Tryz.prog 105 #[.string s, .string ⟨#[c]⟩] w fun e w' => e = .returned (.int .i64 (Lib.indexByte s.data.toList c)) ∧ w' = w := Any.strings_Index_one Tryz.lays143 s c w
def Tryz.lays144_ren : Go.Shelf.Ren := ⟨fun | 144 => 99 | 143 => 105 | 219 => 107 | 217 => 108 | 225 => 110 | 224 => 111 | 267 => 112 | 266 => 113 | 314 => 114 | n => n, fun | 9 => 9 | 4 => 4 | 3 => 3 | 5 => 5 | 46 => 82 | 146 => 88 | 51 => 87 | n => n, fun | 1 => 0 | n => n⟩
theorem Tryz.lays144 : Go.Proofs.Lays.n144 Tryz.prog Tryz.lays144_ren := {
 mixed := by kernel_rfl
 f143 := Tryz.func105.trans (congrArg some (by kernel_rfl))
 f144 := Tryz.func99.trans (congrArg some (by kernel_rfl))
 f217 := Tryz.func108.trans (congrArg some (by kernel_rfl))
 f219 := Tryz.func107.trans (congrArg some (by kernel_rfl))
 f224 := Tryz.func111.trans (congrArg some (by kernel_rfl))
 f225 := Tryz.func110.trans (congrArg some (by kernel_rfl))
 f266 := Tryz.func113.trans (congrArg some (by kernel_rfl))
 f267 := Tryz.func112.trans (congrArg some (by kernel_rfl))
 f314 := Tryz.func114.trans (congrArg some (by kernel_rfl))
 t3 := Tryz.underlying3
 a3 := Tryz.isAgg3
 z3 := Tryz.sizeOf3
 v3 := Tryz.zeroValue3
 t4 := Tryz.underlying4
 a4 := Tryz.isAgg4
 z4 := Tryz.sizeOf4
 v4 := Tryz.zeroValue4
 t5 := Tryz.underlying5
 a5 := Tryz.isAgg5
 z5 := Tryz.sizeOf5
 v5 := Tryz.zeroValue5
 t9 := Tryz.underlying9
 a9 := Tryz.isAgg9
 z9 := Tryz.sizeOf9
 v9 := Tryz.zeroValue9
 t46 := Tryz.underlying82
 a46 := Tryz.isAgg82
 z46 := Tryz.sizeOf82
 v46 := Tryz.zeroValue82
 t51 := Tryz.underlying87
 a51 := Tryz.isAgg87
 z51 := Tryz.sizeOf87
 v51 := Tryz.zeroValue87
 t146 := Tryz.underlying88
 a146 := Tryz.isAgg88
 z146 := Tryz.sizeOf88
 v146 := Tryz.zeroValue88
 g1 := by kernel_rfl }
open Go.RowKit Go.Lib in
theorem Tryz.strings_Contains (s sub : ByteArray) (m : Int) (w : World) (hs : s.size < 4294967281) (hm : w.cell? ⟨0, 0, none⟩ = some (.int .i64 m)) :
  Calls Tryz.prog 99 #[.string s, .string sub] w fun e w' => e = .returned (.bool (Lib.contains s.data.toList sub.data.toList)) ∧ w' = w := Any.strings_Contains Tryz.lays144 s sub m w hs hm
def Tryz.lays145_ren : Go.Shelf.Ren := ⟨fun | 145 => 77 | 220 => 97 | 219 => 107 | 217 => 108 | 225 => 110 | 224 => 111 | 267 => 112 | 266 => 113 | 314 => 114 | n => n, fun | 9 => 9 | 4 => 4 | 59 => 58 | 3 => 3 | 5 => 5 | 46 => 82 | 146 => 88 | 51 => 87 | n => n, fun | 1 => 0 | n => n⟩
theorem Tryz.lays145 : Go.Proofs.Lays.n145 Tryz.prog Tryz.lays145_ren := {
 mixed := by kernel_rfl
 f145 := Tryz.func77.trans (congrArg some (by kernel_rfl))
 f217 := Tryz.func108.trans (congrArg some (by kernel_rfl))
 f219 := Tryz.func107.trans (congrArg some (by kernel_rfl))
 f220 := Tryz.func97.trans (congrArg some (by kernel_rfl))
 f224 := Tryz.func111.trans (congrArg some (by kernel_rfl))
 f225 := Tryz.func110.trans (congrArg some (by kernel_rfl))
 f266 := Tryz.func113.trans (congrArg some (by kernel_rfl))
 f267 := Tryz.func112.trans (congrArg some (by kernel_rfl))
 f314 := Tryz.func114.trans (congrArg some (by kernel_rfl))
 t3 := Tryz.underlying3
 a3 := Tryz.isAgg3
 z3 := Tryz.sizeOf3
 v3 := Tryz.zeroValue3
 t4 := Tryz.underlying4
 a4 := Tryz.isAgg4
 z4 := Tryz.sizeOf4
 v4 := Tryz.zeroValue4
 t5 := Tryz.underlying5
 a5 := Tryz.isAgg5
 z5 := Tryz.sizeOf5
 v5 := Tryz.zeroValue5
 t9 := Tryz.underlying9
 a9 := Tryz.isAgg9
 z9 := Tryz.sizeOf9
 v9 := Tryz.zeroValue9
 t46 := Tryz.underlying82
 a46 := Tryz.isAgg82
 z46 := Tryz.sizeOf82
 v46 := Tryz.zeroValue82
 t51 := Tryz.underlying87
 a51 := Tryz.isAgg87
 z51 := Tryz.sizeOf87
 v51 := Tryz.zeroValue87
 t59 := Tryz.underlying58
 a59 := Tryz.isAgg58
 z59 := Tryz.sizeOf58
 v59 := Tryz.zeroValue58
 t146 := Tryz.underlying88
 a146 := Tryz.isAgg88
 z146 := Tryz.sizeOf88
 v146 := Tryz.zeroValue88
 g1 := by kernel_rfl }
open Go.RowKit Go.Lib in
theorem Tryz.strings_Cut (s sep : ByteArray) (m : Int) (w : World) (hs : s.size < 4294967281) (hm : w.cell? ⟨0, 0, none⟩ = some (.int .i64 m)) :
  Calls Tryz.prog 77 #[.string s, .string sep] w fun e w' => e = .returned (.tuple #[.string ⟨(Lib.cut s.data.toList sep.data.toList).1.toArray⟩, .string ⟨(Lib.cut s.data.toList sep.data.toList).2.1.toArray⟩, .bool (Lib.cut s.data.toList sep.data.toList).2.2]) ∧ ∃ n, w' = w.drewN n := Any.strings_Cut Tryz.lays145 s sep m w hs hm
def Tryz.lays99_ren : Go.Shelf.Ren := ⟨fun | 99 => 75 | 206 => 95 | n => n, fun | 9 => 9 | 4 => 4 | 3 => 3 | n => n, fun | n => n⟩
theorem Tryz.lays99 : Go.Proofs.Lays.n99 Tryz.prog Tryz.lays99_ren := {
 mixed := by kernel_rfl
 f99 := Tryz.func75.trans (congrArg some (by kernel_rfl))
 f206 := Tryz.func95.trans (congrArg some (by kernel_rfl))
 t3 := Tryz.underlying3
 a3 := Tryz.isAgg3
 z3 := Tryz.sizeOf3
 v3 := Tryz.zeroValue3
 t4 := Tryz.underlying4
 a4 := Tryz.isAgg4
 z4 := Tryz.sizeOf4
 v4 := Tryz.zeroValue4
 t9 := Tryz.underlying9
 a9 := Tryz.isAgg9
 z9 := Tryz.sizeOf9
 v9 := Tryz.zeroValue9 }
open Go.RowKit Go.Lib in
theorem Tryz.strings_HasPrefix (s p : ByteArray) (w : World) :
  Calls Tryz.prog 75 #[.string s, .string p] w fun e w' => e = .returned (.bool (Lib.hasPrefix s.data.toList p.data.toList)) ∧ w' = w := Any.strings_HasPrefix Tryz.lays99 s p w
def Tryz.lays101_ren : Go.Shelf.Ren := ⟨fun | 101 => 96 | 208 => 106 | 206 => 95 | n => n, fun | 9 => 9 | 4 => 4 | 3 => 3 | n => n, fun | n => n⟩
theorem Tryz.lays101 : Go.Proofs.Lays.n101 Tryz.prog Tryz.lays101_ren := {
 mixed := by kernel_rfl
 f101 := Tryz.func96.trans (congrArg some (by kernel_rfl))
 f206 := Tryz.func95.trans (congrArg some (by kernel_rfl))
 f208 := Tryz.func106.trans (congrArg some (by kernel_rfl))
 t3 := Tryz.underlying3
 a3 := Tryz.isAgg3
 z3 := Tryz.sizeOf3
 v3 := Tryz.zeroValue3
 t4 := Tryz.underlying4
 a4 := Tryz.isAgg4
 z4 := Tryz.sizeOf4
 v4 := Tryz.zeroValue4
 t9 := Tryz.underlying9
 a9 := Tryz.isAgg9
 z9 := Tryz.sizeOf9
 v9 := Tryz.zeroValue9 }
open Go.RowKit Go.Lib in
theorem Tryz.strings_TrimPrefix (s p : ByteArray) (w : World) :
  Calls Tryz.prog 96 #[.string s, .string p] w fun e w' => e = .returned (.string ⟨(Lib.trimPrefix s.data.toList p.data.toList).toArray⟩) ∧ w' = w := Any.strings_TrimPrefix Tryz.lays101 s p w
def Tryz.lays107_ren : Go.Shelf.Ren := ⟨fun | 107 => 73 | 108 => 93 | n => n, fun | 28 => 53 | 3 => 3 | 4 => 4 | 0 => 0 | n => n, fun | n => n⟩
theorem Tryz.lays107 : Go.Proofs.Lays.n107 Tryz.prog Tryz.lays107_ren := {
 mixed := by kernel_rfl
 f107 := Tryz.func73.trans (congrArg some (by kernel_rfl))
 f108 := Tryz.func93.trans (congrArg some (by kernel_rfl))
 t0 := Tryz.underlying0
 a0 := Tryz.isAgg0
 z0 := Tryz.sizeOf0
 v0 := Tryz.zeroValue0
 t3 := Tryz.underlying3
 a3 := Tryz.isAgg3
 z3 := Tryz.sizeOf3
 v3 := Tryz.zeroValue3
 t4 := Tryz.underlying4
 a4 := Tryz.isAgg4
 z4 := Tryz.sizeOf4
 v4 := Tryz.zeroValue4
 t28 := Tryz.underlying53
 a28 := Tryz.isAgg53
 z28 := Tryz.sizeOf53
 v28 := Tryz.zeroValue53 }
open Go.Lib in
theorem Tryz.slices_Contains_int (b off n c : Nat) (zs : List Int) (x : Int) (w : World) (hz : n ≤ zs.length) (hbig : n ≤ 9223372036854775807) (hc : ∀ j, j < zs.length → w.cell? ⟨b, off + j, none⟩ = some (.int .i64 (zs.getD j 0))) :
  Calls Tryz.prog 73 #[.slice (some ⟨b, off, none⟩) n c, .int .i64 x] w fun e w' => e = .returned (.bool ((zs.take n).contains x)) ∧ w' = w := Any.slices_Contains_int Tryz.lays107 b off n c zs x w hz hbig hc
end Go.Proofs
namespace Go.Proofs.YtdkepckkihclgaaGreatDoor.PNodeChecks
open Go.RowKit Go.Proofs.YtdkepckkihclgaaGreatDoorW.PrintWords Go.Proofs.YtdkepckkihclgaaGreatDoorW.PrintLast Go.Proofs.YtdkepckkihclgaaGreatDoorW.PrintMore
set_option linter.unusedVariables false
set_option linter.unusedSimpArgs false
def qdl : Nat → List Int → Int → Option (List Int)
 | 0, _, _ => none
 | k + 1, acc, n => if n / 10 = 0 then some ((48 + n % 10) :: acc) else qdl k ((48 + n % 10) :: acc) (n / 10)
def digs (n : Int) : ByteArray := strOfNums ((qdl 21 [] n).getD [])
theorem qdl_some : ∀ (k : Nat) (acc : List Int) (n : Int), 0 ≤ n → n < 10 ^ k → 1 ≤ k → ∃ l, qdl k acc n = some l
 | 0, _, _, _, _, h => by omega
 | k + 1, acc, n, h0, h1, _ => by
  unfold qdl
  split
  ·exact ⟨_, rfl⟩
  ·rename_i hn
   have hk : 1 ≤ k := by
    rcases Nat.eq_zero_or_pos k with rfl | h
    ·exfalso; simp at h1; omega
    ·exact h
   exact qdl_some k _ _ (by omega) (by rw [Int.pow_succ] at h1; omega) hk
set_option maxHeartbeats 8000000 in
set_option maxRecDepth 100000 in
theorem quote_Digits.calls (n : Int) (w : World) (h0 : 0 ≤ n) (h1 : n < 18446744073709551616) :
  Calls Tryz.prog 83 #[.int .u64 n] w fun e w' => e = .returned (.string (digs n)) ∧ Below w.heap.size w w' := by
 have HN := Aside0.mk (And.intro h0 h1)
 clear h0 h1
 have HB := Aside0.mk (Below.refl w.heap.size w)
 go_enter Tryz.func83, Tryz.ntmps83
 go_wp2_with (first | ((with_reducible refine gate_dst (N := 3) rfl ?_); refine box_event ?hg (N := 3) ?hd (cs := Array.replicate 20 (.int .u8 0)) (t := 77) ?hr ?_; (case hd => rfl); (case hg => rfl); (case hr => first | (go_simp; done) | (go_simp; rfl)); intro g hg w1 hbox hb; have HB1 := Aside0.mk (below_step HB.out hb); have HX := Aside0.mk hbox; have HG := Aside0.mk hg; clear hg hb hbox))
 obtain ⟨r, hr⟩ := qdl_some 21 [] n HN.out.1 (by have := HN.out.2; omega) (by omega)
 have HD := Aside0.mk (show digs n = strOfNums r by unfold digs; rw [hr]; rfl)
 have HQ := Aside0.mk hr
 clear hr
 have hgw : Aside0 (w.heap.size ≤ g) := ⟨by rw [HG.out]; exact Nat.le_refl _⟩
 go_loopg [0, 4] 21 (fun kq v0 v4 w' => ∃ (acc : List Int) (m i : Int) (cs : Array Value), v0 = .int .u64 m ∧ v4 = .int .i64 i ∧ 1 ≤ i ∧ i ≤ 20 ∧ 0 ≤ m ∧ Aside0 (i = 20 - (acc.length : Int)) ∧ Aside0 (m < 10 ^ (20 - acc.length)) ∧ Aside0 (m < 18446744073709551616) ∧ Aside0 (qdl kq acc m = some r) ∧ Aside0 (kq ≤ 21) ∧ Aside0 (w'.heap[g]? = some (.cells cs 77 (0, 0))) ∧ Aside0 (cs.size = 20 ∧ cs.toList.drop i.toNat = nums .u8 acc) ∧ Aside0 (Below w.heap.size w w'))
 case atStart => exact ⟨[], n, 20, _, rfl, rfl, by omega, by omega, HN.out.1, ⟨by simp⟩, ⟨by have := HN.out.2; show n < 10 ^ 20; omega⟩, ⟨HN.out.2⟩, HQ, ⟨Nat.le_refl _⟩, HX, ⟨by simp, by simp [nums]⟩, HB1⟩
 case round =>
  clear HX HB1 HQ HB
  obtain ⟨acc, m, i, cs, rfl, rfl, hi1, hi2, hm0, HI, HM, HM2, HA, HK, HX, HC, HB⟩ := hrel
  cases gk with
  | zero => exact absurd HA.out (by simp [qdl])
  | succ k1 =>
   have H := HA.out
   clear HA
   simp only [qdl] at H
   have hi3 : (0 : Int) ≤ i - 1 := by omega
   have hi4 : i - 1 < 20 := by omega
   have hp : i.toNat - 1 < cs.size := by have := HC.out.1; omega
   have hcell : wr.cell? ⟨g, i.toNat - 1, none⟩ = some cs[i.toNat - 1] := by
    rw [blk_cell HX.out]
    exact Array.getElem?_eq_getElem hp
   have hfr := blk_frozen HX.out (i.toNat - 1)
   have hdv : IntKind.u64.wrap (m.tdiv 10) = m / 10 := by
    rw [Int.tdiv_eq_ediv_of_nonneg hm0]
    have := HM2.out
    have hb : (2 : Int) ^ IntKind.u64.bits = 18446744073709551616 := by decide
    simp only [IntKind.wrap, IntKind.signed, hb]
    simp
    omega
   obtain ⟨W2, hW2⟩ : ∃ W2, wr.setCell ⟨g, i.toNat - 1, none⟩ (.int .u8 (48 + m % 10)) = W2 := ⟨_, rfl⟩
   have HX2 : Aside0 (W2.heap[g]? = some (.cells (cs.setIfInBounds (i.toNat - 1) (.int .u8 (48 + m % 10))) 77 (0, 0))) := ⟨hW2 ▸ blk_set HX.out _ _⟩
   have HB2 : Aside0 (Below w.heap.size w W2) := ⟨hW2 ▸ below_set HB.out hgw.out⟩
   have HC2 : Aside0 ((cs.setIfInBounds (i.toNat - 1) (.int .u8 (48 + m % 10))).size = 20 ∧ (cs.setIfInBounds (i.toNat - 1) (.int .u8 (48 + m % 10))).toList.drop (i - 1).toNat = nums .u8 ((48 + m % 10) :: acc)) := ⟨by
    refine ⟨by simpa using HC.out.1, ?_⟩
    have e1 : (i - 1).toNat = i.toNat - 1 := by omega
    rw [e1, Array.toList_setIfInBounds, List.drop_eq_getElem_cons (by simpa using hp)]
    simp only [List.getElem_set_self]
    rw [List.drop_set_of_lt (by omega), show i.toNat - 1 + 1 = i.toNat from by omega, HC.out.2]
    rfl⟩
   by_cases c1 : m / 10 = 0
   ·rw [if_pos c1] at H
    obtain rfl := Option.some.inj H
    have c1b : (m / 10 == 0) = true := beq_iff_eq.mpr c1
    have hsl : ∀ W, (Instr.sliceAt 77 (.pointer (some ⟨g, 0, none⟩)) (some (.int .i64 (i - 1))) none none).run Tryz.prog W = .ok (.slice (some ⟨g, i.toNat - 1, none⟩) (20 - (i.toNat - 1)) (20 - (i.toNat - 1))) W := fun W => by
     have hal : Tryz.prog.arrayLen 77 = 20 := by kernel_rfl
     have hel : Tryz.prog.elem 77 = 5 := by kernel_rfl
     have hsz : ∀ W, (sizeOf 5).run Tryz.prog W = .ok 1 W := fun _ => by kernel_rfl
     rw [run_sliceAt_array_l W 77 ⟨g, 0, none⟩ (by kernel_rfl) .i64 (i - 1) hi3 (by rw [hal]; omega), hal, hel, hsz]
     have e1 : (i - 1).toNat = i.toNat - 1 := by omega
     simp [Result.andThen, slicedAt, e1, add_plain]
     omega
    have hcv : (convert 75 9 (.slice (some ⟨g, i.toNat - 1, none⟩) (20 - (i.toNat - 1)) (20 - (i.toNat - 1)))).run Tryz.prog W2 = .ok (.string (strOfNums ((48 + m % 10) :: acc))) W2 :=
     string_of_reads Tryz.underlying75 Tryz.underlying5 Tryz.underlying9 ⟨by simp; have := HI.out; omega, by omega, fun _ => ⟨_, rfl, fun j hj => by
      have h1 : W2.cell? ⟨g, i.toNat - 1 + j, none⟩ = _ := blk_cell HX2.out (i.toNat - 1 + j)
      have h2 : (⟨g, i.toNat - 1, none⟩ : Addr).add j = ⟨g, i.toNat - 1 + j, none⟩ := by unfold Addr.add; split <;> simp_all
      rw [h2, h1]
      have h3 := congrArg (fun l : List Value => l[j]?) HC2.out.2
      have e1 : (i - 1).toNat = i.toNat - 1 := by omega
      simp only [List.getElem?_drop, e1] at h3
      rw [← Array.getElem?_toList, h3]
      have hj2 : j < ((48 + m % 10) :: acc).length := by simp; have := HI.out; omega
      rw [nums, List.getElem?_map, List.getElem?_eq_getElem hj2, List.getD_eq_getElem?_getD, List.getElem?_eq_getElem hj2]
      rfl⟩⟩
    clear H c1
    go_wp2
    go_ret
    exact ⟨by rw [HD.out]; rfl, HB2.out⟩
   ·rw [if_neg c1] at H
    have c1b : (m / 10 == 0) = false := beq_eq_false_iff_ne.mpr c1
    have H' := Aside0.mk H
    clear H
    go_wp2
    go_roundg k1
    case measure => have := HK.out; omega
    case rel =>
     refine ⟨_, m / 10, i - 1, _, rfl, rfl, ?_, by omega, by omega, ⟨by have := HI.out; simp; omega⟩, ⟨?_⟩, ⟨by have := HM2.out; omega⟩, H', ⟨by have := HK.out; omega⟩, HX2, HC2, HB2⟩
     ·have h1 := HM.out
      have h2 := HI.out
      rcases Nat.lt_or_ge acc.length 19 with h3 | h3
      ·omega
      ·have : acc.length = 19 := by omega
       rw [this] at h1
       simp at h1
       omega
     ·have h1 := HM.out
      have h2 := HI.out
      rw [show 20 - acc.length = (20 - (acc.length + 1)) + 1 from by omega, Int.pow_succ] at h1
      simp only [List.length_cons]
      omega
end Go.Proofs.YtdkepckkihclgaaGreatDoor.PNodeChecks
namespace Go.Proofs.YtdkepckkihclgaaGreatDoor.PNodeChecks
open Go.RowKit Go.Proofs.YtdkepckkihclgaaGreatDoorW.PrintWords Go.Proofs.YtdkepckkihclgaaGreatDoorW.PrintLast Go.Proofs.YtdkepckkihclgaaGreatDoorW.PrintMore
set_option linter.unusedVariables false
set_option linter.unusedSimpArgs false
theorem cd0 (W : World) : (convert 21 9 (.int .i32 48)).run Tryz.prog W = .ok (.string ⟨#[48]⟩) W := by kernel_rfl
theorem cd1 (W : World) : (convert 21 9 (.int .i32 49)).run Tryz.prog W = .ok (.string ⟨#[49]⟩) W := by kernel_rfl
theorem cd2 (W : World) : (convert 21 9 (.int .i32 50)).run Tryz.prog W = .ok (.string ⟨#[50]⟩) W := by kernel_rfl
theorem cd3 (W : World) : (convert 21 9 (.int .i32 51)).run Tryz.prog W = .ok (.string ⟨#[51]⟩) W := by kernel_rfl
theorem cd4 (W : World) : (convert 21 9 (.int .i32 52)).run Tryz.prog W = .ok (.string ⟨#[52]⟩) W := by kernel_rfl
theorem cd5 (W : World) : (convert 21 9 (.int .i32 53)).run Tryz.prog W = .ok (.string ⟨#[53]⟩) W := by kernel_rfl
theorem cd6 (W : World) : (convert 21 9 (.int .i32 54)).run Tryz.prog W = .ok (.string ⟨#[54]⟩) W := by kernel_rfl
theorem cd7 (W : World) : (convert 21 9 (.int .i32 55)).run Tryz.prog W = .ok (.string ⟨#[55]⟩) W := by kernel_rfl
theorem cd8 (W : World) : (convert 21 9 (.int .i32 56)).run Tryz.prog W = .ok (.string ⟨#[56]⟩) W := by kernel_rfl
theorem cd9 (W : World) : (convert 21 9 (.int .i32 57)).run Tryz.prog W = .ok (.string ⟨#[57]⟩) W := by kernel_rfl
theorem conv_digit (c : Int) (h0 : 48 ≤ c) (h1 : c ≤ 57) (W : World) : (convert 21 9 (.int .i32 c)).run Tryz.prog W = .ok (.string ⟨#[c.toNat.toUInt8]⟩) W := by
 have : c = 48 ∨ c = 49 ∨ c = 50 ∨ c = 51 ∨ c = 52 ∨ c = 53 ∨ c = 54 ∨ c = 55 ∨ c = 56 ∨ c = 57 := by omega
 rcases this with h | h | h | h | h | h | h | h | h | h
 ·subst h; exact cd0 W
 ·subst h; exact cd1 W
 ·subst h; exact cd2 W
 ·subst h; exact cd3 W
 ·subst h; exact cd4 W
 ·subst h; exact cd5 W
 ·subst h; exact cd6 W
 ·subst h; exact cd7 W
 ·subst h; exact cd8 W
 ·subst h; exact cd9 W
theorem strOfNums_size (l : List Int) : (strOfNums l).size = l.length := by
 show (strOfNums l).data.size = l.length
 simp [strOfNums]
theorem strOfNums_cons (c : Int) (l : List Int) : strOfNums (c :: l) = (⟨#[c.toNat.toUInt8]⟩ : ByteArray) ++ strOfNums l := by
 apply ByteArray.ext
 simp [strOfNums]
def glossaryref01_Digits.f (a0 : Int) : Option (ByteArray) := if 0 ≤ a0 ∧ a0 < 18446744073709551616 then some (digs a0) else none
set_option maxHeartbeats 8000000 in
set_option maxRecDepth 100000 in
theorem glossaryref01_Digits.calls (a0 : Int) (r : ByteArray) (w : World) (h : glossaryref01_Digits.f a0 = some r) :
  Calls Tryz.prog 85 #[.int .u64 a0] w fun e w' => e = .returned (.string r) ∧ Below w.heap.size w w' := by
 unfold glossaryref01_Digits.f at h
 split at h
 ·rename_i hN
  obtain rfl := Option.some.inj h
  obtain ⟨l, hr⟩ := qdl_some 21 [] a0 hN.1 (by have := hN.2; show a0 < 10 ^ 21; omega) (by omega)
  have HD := Aside0.mk (show digs a0 = strOfNums l by unfold digs; rw [hr]; rfl)
  have HQ := Aside0.mk hr
  have HN := Aside0.mk hN
  clear hr hN h
  go_enter Tryz.func85, Tryz.ntmps85
  go_wp2
  go_loopg [0, 3] 22 (fun kq v0 v3 w' => ∃ (acc : List Int) (m : Int), v0 = .int .u64 m ∧ v3 = .string (strOfNums acc) ∧ 0 ≤ m ∧ Aside0 (m < 18446744073709551616) ∧ w' = w ∧ Aside0 (acc.length + kq ≤ 22) ∧ Aside0 ((∃ k, kq = k + 1 ∧ qdl k acc m = some l ∧ (0 < m ∨ acc = [])) ∨ (acc = l ∧ m = 0 ∧ acc ≠ [])))
  case atStart => exact ⟨[], a0, rfl, rfl, HN.out.1, ⟨HN.out.2⟩, rfl, ⟨by simp⟩, ⟨.inl ⟨21, rfl, HQ.out, .inr rfl⟩⟩⟩
  case round =>
   clear HQ
   obtain ⟨acc, m, rfl, rfl, hm0, HM, rfl, HLen, HA⟩ := hrel
   rcases HA.out with ⟨k, rfl, hq, hc⟩ | ⟨rfl, rfl, hne⟩
   ·have hdv : IntKind.u64.wrap (m.tdiv 10) = m / 10 := by
     rw [Int.tdiv_eq_ediv_of_nonneg hm0]
     have := HM.out
     have hb : (2 : Int) ^ IntKind.u64.bits = 18446744073709551616 := by decide
     simp only [IntKind.wrap, IntKind.signed, hb]
     simp
     omega
    have hcv := conv_digit (48 + m % 10) (by omega) (by omega)
    cases k with
    | zero => exact absurd hq (by simp [qdl])
    | succ k =>
     have HQ := Aside0.mk hq
     have HS := Aside0.mk (strOfNums_cons (48 + m % 10) acc)
     clear hq HA
     have hfin : Aside0 ((∃ k', k + 1 = k' + 1 ∧ qdl k' ((48 + m % 10) :: acc) (m / 10) = some l ∧ (0 < m / 10 ∨ (48 + m % 10) :: acc = [])) ∨ ((48 + m % 10) :: acc = l ∧ m / 10 = 0 ∧ (48 + m % 10) :: acc ≠ [])) := ⟨by
      have hq := HQ.out
      unfold qdl at hq
      split at hq
      ·rename_i h0
       exact .inr ⟨Option.some.inj hq, h0, by simp⟩
      ·exact .inl ⟨k, rfl, hq, .inl (by omega)⟩⟩
     have hsz : 1 + (strOfNums acc).size ≤ 9223372036854775807 := by rw [strOfNums_size]; have := HLen.out; omega
     have hemp : (strOfNums acc).toList.isEmpty = acc.isEmpty := by
      rw [ByteArray.toList_eq]
      cases acc <;> simp [strOfNums]
     rcases hc with hc | rfl
     ·have c1 : decide (0 < m) = true := decide_eq_true hc
      go_wp2
      go_roundg (k + 1)
      case measure => omega
      case rel => exact ⟨(48 + m % 10) :: acc, m / 10, rfl, by rw [HS.out], by omega, ⟨by have := HM.out; omega⟩, rfl, ⟨by have := HLen.out; simp only [List.length_cons] at this ⊢; omega⟩, hfin⟩
     ·have hemp' : (strOfNums ([] : List Int)).toList.isEmpty = true := hemp
      have hemp'' : (strOfNums ([] : List Int)).toList = [] := List.isEmpty_iff.mp hemp'
      clear hemp
      by_cases hc : 0 < m
      ·have c1 : decide (0 < m) = true := decide_eq_true hc
       go_wp2
       go_roundg (k + 1)
       case measure => omega
       case rel => exact ⟨[48 + m % 10], m / 10, rfl, by rw [HS.out], by omega, ⟨by have := HM.out; omega⟩, rfl, ⟨by have := HLen.out; simp only [List.length_cons, List.length_nil] at this ⊢; omega⟩, hfin⟩
      ·have c1 : decide (0 < m) = false := decide_eq_false hc
       go_wp2
       go_roundg (k + 1)
       case measure => omega
       case rel => exact ⟨[48 + m % 10], m / 10, rfl, by rw [HS.out], by omega, ⟨by have := HM.out; omega⟩, rfl, ⟨by have := HLen.out; simp only [List.length_cons, List.length_nil] at this ⊢; omega⟩, hfin⟩
   ·have hemp : (strOfNums acc).toList.isEmpty = false := by
     rw [ByteArray.toList_eq]
     cases acc <;> simp_all [strOfNums]
    have hemp' : ¬ (strOfNums acc).toList = [] := fun h => by rw [h] at hemp; simp at hemp
    go_wp2
    go_ret
    exact ⟨by rw [HD.out]; rfl, Below.refl _ _⟩
 ·cases h
end Go.Proofs.YtdkepckkihclgaaGreatDoor.PNodeChecks
namespace Go.Proofs.YtdkepckkihclgaaGreatDoor.PNodeChecks
open Go.RowKit Go.Proofs.YtdkepckkihclgaaGreatDoorW.PrintWords Go.Proofs.YtdkepckkihclgaaGreatDoorW.PrintLast Go.Proofs.YtdkepckkihclgaaGreatDoorW.PrintMore
set_option linter.unusedVariables false
set_option linter.unusedSimpArgs false
def worthB (c : Int) : Int := if 48 ≤ c ∧ c ≤ 57 then c - 48 else if 97 ≤ c ∧ c ≤ 102 then c - 87 else if 65 ≤ c ∧ c ≤ 70 then c - 55 else 16
set_option maxHeartbeats 8000000 in
theorem worth_calls (c : Int) (h0 : 0 ≤ c) (hc : c ≤ 255) (w : World) : Calls Tryz.prog 101 #[.int .u8 c] w fun e w' => e = .returned (.int .i64 (worthB c)) ∧ w' = w := by
  by_cases h1 : 48 ≤ c <;> by_cases h2 : c ≤ 57 <;> by_cases h3 : 97 ≤ c <;> by_cases h4 : c ≤ 102 <;> by_cases h5 : 65 ≤ c <;> by_cases h6 : c ≤ 70 <;> first
  | (exfalso; omega)
  | ((first | have g1 := decide_eq_true h1 | have g1 := decide_eq_false h1)
     (first | have g2 := decide_eq_true h2 | have g2 := decide_eq_false h2)
     (first | have g3 := decide_eq_true h3 | have g3 := decide_eq_false h3)
     (first | have g4 := decide_eq_true h4 | have g4 := decide_eq_false h4)
     (first | have g5 := decide_eq_true h5 | have g5 := decide_eq_false h5)
     (first | have g6 := decide_eq_true h6 | have g6 := decide_eq_false h6)
     have hw : Aside0 (worthB c = if 48 ≤ c ∧ c ≤ 57 then c - 48 else if 97 ≤ c ∧ c ≤ 102 then c - 87 else if 65 ≤ c ∧ c ≤ 70 then c - 55 else 16) := ⟨rfl⟩
     have hh := Aside0.mk (And.intro h0 hc)
     go_enter Tryz.func101, Tryz.ntmps101
     go_wp2
     go_ret
     refine ⟨?_, rfl⟩
     rw [hw.out]
     have hh := hh.out
     refine congrArg (fun z => Ending.returned (.int .i64 z)) ?_
     (repeat' split) <;> (first | omega | (show _ = _; unfold Go.RowKit.wrap64; omega) | (exfalso; omega)))
set_option maxRecDepth 100000 in
theorem or32 : ∀ n : Nat, n < 256 → (bits .or .u8 (n : Int) 32 == 120) = (n == 120 || n == 88) := by decide
def qnl : Nat → Int → ByteArray → Int → Int → Option (Int × Bool)
  | 0, _, _, _, _ => none
  | k + 1, b, d, n, i => if i < (d.size : Int) then (if 0 ≤ i then (if (IntKind.u64.wrap (worthB (bt d i))) ≥ b then (some (0, false)) else (if b = 0 then none else (if n > (IntKind.u64.wrap (Int.tdiv (IntKind.u64.wrap (18446744073709551615 - (IntKind.u64.wrap (worthB (bt d i))))) b)) then (some (0, false)) else (qnl k b d (IntKind.u64.wrap ((IntKind.u64.wrap (n * b)) + (IntKind.u64.wrap (worthB (bt d i))))) (wrap64 (i + 1)))))) else none) else (some (n, (d.toList != ([] : List UInt8))))
def hexB (s : ByteArray) : Bool := decide ((s.size : Int) > 2) && ((bt s 0 == 48) && ((bt s 1 == 120) || (bt s 1 == 88)))
def octB (s : ByteArray) : Bool := decide ((s.size : Int) > 1) && (bt s 0 == 48)
def quote_Number.f (k : Nat) (s : ByteArray) : Option (Int × Bool) :=
  if hexB s = true then qnl k 16 (s.extract 2 s.size) 0 0 else if octB s = true then qnl k 8 (s.extract 1 s.size) 0 0 else qnl k 10 s 0 0
set_option maxHeartbeats 8000000 in
set_option maxRecDepth 100000 in
theorem quote_Number.calls (k : Nat) (s : ByteArray) (r1 : Int) (r2 : Bool) (w : World) (hs : s.size < 4611686018427387904) (h : quote_Number.f k s = some (r1, r2)) :
    Calls Tryz.prog 82 #[.string s] w fun e w' => e = .returned (.tuple #[.int .u64 r1, .bool r2]) ∧ Below w.heap.size w w' := by
  have H := Aside0.mk h
  have HB := Aside0.mk (Below.refl w.heap.size w)
  clear h
  go_enter Tryz.func82, Tryz.ntmps82
  go_upto_block 0 with (fail)
  go_cut [0, 4] (fun v0 v4 wx => ∃ (d : ByteArray) (b : Int), v0 = .string d ∧ v4 = .int .u64 b ∧ Aside0 (qnl k b d 0 0 = some (r1, r2)) ∧ d.size ≤ s.size ∧ 8 ≤ b ∧ b ≤ 16 ∧ Aside0 (Below w.heap.size w wx))
  case first =>
    have done_ : ∀ (d : ByteArray) (b : Int) (W : World), quote_Number.f k s = qnl k b d 0 0 → d.size ≤ s.size → 8 ≤ b → b ≤ 16 → Below w.heap.size w W → ∃ (d' : ByteArray) (b' : Int), Value.string d = .string d' ∧ Value.int .u64 b = .int .u64 b' ∧ Aside0 (qnl k b' d' 0 0 = some (r1, r2)) ∧ d'.size ≤ s.size ∧ 8 ≤ b' ∧ b' ≤ 16 ∧ Aside0 (Below w.heap.size w W) :=
      fun d b W e h1 h2 h3 h4 => ⟨d, b, rfl, rfl, ⟨e ▸ H.out⟩, h1, h2, h3, ⟨h4⟩⟩
    have DN := Aside0.mk done_
    clear done_ H
    by_cases h2 : (2 : Int) < s.size
    · have g1 : decide ((2 : Int) < s.size) = true := decide_eq_true h2
      have g2 : decide ((1 : Int) < s.size) = true := decide_eq_true (by omega)
      have p0 : (0 : Nat) < s.size := by omega
      have p1 : (1 : Nat) < s.size := by omega
      have q1 : (1 : Int) < s.size := by omega
      have q2 : (2 : Int) ≤ s.size := by omega
      have q3 : (1 : Int) ≤ s.size := by omega
      have x0 : ((s[0]'p0).toNat : Int) = bt s 0 := bt_at s 0 p0
      have x1 : ((s[1]'p1).toNat : Int) = bt s 1 := bt_at s 1 p1
      have ho := or32 (s[1]'p1).toNat (s[1]'p1).toNat_lt
      by_cases h0 : bt s 0 = 48
      · have h00 : ((s[0]'p0).toNat : Int) = 48 := x0.trans h0
        have hob : octB s = true := by unfold octB; simp [h0]; omega
        by_cases h1 : bt s 1 = 120 ∨ bt s 1 = 88
        · have hx : hexB s = true := by unfold hexB; simp [h2, h0, h1]
          have ho' : (bits .or .u8 ((s[1]'p1).toNat : Int) 32 == 120) = true := by
            rw [ho]
            rw [← x1] at h1
            simp
            omega
          have HX := Aside0.mk hx
          clear x0 x1 ho h1 h0 hx hob
          go_wp2
          go_quiet (fail)
          go_wp2_with fail
          go_meet
          exact DN.out _ _ _ (by unfold quote_Number.f; rw [if_pos HX.out]) (by simp) (by omega) (by omega) (pw_below_drewN (Below.refl _ _) _)
        · have hx : ¬ hexB s = true := by unfold hexB; simp [h2, h0]; omega
          have ho' : (bits .or .u8 ((s[1]'p1).toNat : Int) 32 == 120) = false := by
            rw [ho]
            rw [← x1] at h1
            simp
            omega
          have HX := Aside0.mk hx
          have HO := Aside0.mk hob
          clear x0 x1 ho h1 h0 hx hob
          go_wp2
          go_quiet (fail)
          go_wp2_with fail
          go_meet
          exact DN.out _ _ _ (by unfold quote_Number.f; rw [if_neg HX.out, if_pos HO.out]) (by simp) (by omega) (by omega) (pw_below_drewN (Below.refl _ _) _)
      · have h00 : (((s[0]'p0).toNat : Int) == 48) = false := by rw [x0]; exact beq_eq_false_iff_ne.mpr h0
        have hx : ¬ hexB s = true := by unfold hexB; simp [h0]
        have hob : ¬ octB s = true := by unfold octB; simp [h0]
        have HX := Aside0.mk hx
        have HO := Aside0.mk hob
        clear x0 x1 ho h0 hx hob
        go_wp2
        go_meet
        exact DN.out _ _ _ (by unfold quote_Number.f; rw [if_neg HX.out, if_neg HO.out]) (by simp) (by omega) (by omega) (Below.refl _ _)
    · have g1 : decide ((2 : Int) < s.size) = false := decide_eq_false h2
      have hx : ¬ hexB s = true := by unfold hexB; simp; omega
      have HX := Aside0.mk hx
      clear hx
      by_cases h3 : (1 : Int) < s.size
      · have g2 : decide ((1 : Int) < s.size) = true := decide_eq_true h3
        have p0 : (0 : Nat) < s.size := by omega
        have q1 : (1 : Int) < s.size := by omega
        have q3 : (1 : Int) ≤ s.size := by omega
        have x0 : ((s[0]'p0).toNat : Int) = bt s 0 := bt_at s 0 p0
        by_cases h0 : bt s 0 = 48
        · have h00 : ((s[0]'p0).toNat : Int) = 48 := x0.trans h0
          have hob : octB s = true := by unfold octB; simp [h0]; omega
          have HO := Aside0.mk hob
          clear x0 h0 hob
          go_wp2
          go_quiet (fail)
          go_wp2_with fail
          go_meet
          exact DN.out _ _ _ (by unfold quote_Number.f; rw [if_neg HX.out, if_pos HO.out]) (by simp) (by omega) (by omega) (pw_below_drewN (Below.refl _ _) _)
        · have h00 : (((s[0]'p0).toNat : Int) == 48) = false := by rw [x0]; exact beq_eq_false_iff_ne.mpr h0
          have hob : ¬ octB s = true := by unfold octB; simp [h0]
          have HO := Aside0.mk hob
          clear x0 h0 hob
          go_wp2
          go_meet
          exact DN.out _ _ _ (by unfold quote_Number.f; rw [if_neg HX.out, if_neg HO.out]) (by simp) (by omega) (by omega) (Below.refl _ _)
      · have g2 : decide ((1 : Int) < s.size) = false := decide_eq_false h3
        have hob : ¬ octB s = true := by unfold octB; simp; omega
        have HO := Aside0.mk hob
        clear hob
        go_wp2
        go_meet
        exact DN.out _ _ _ (by unfold quote_Number.f; rw [if_neg HX.out, if_neg HO.out]) (by simp) (by omega) (by omega) (Below.refl _ _)
  case rest =>
    obtain ⟨d, b, rfl, rfl, HQ, hd, hb8, hb16, HB⟩ := hcut
    have kb := fun W => print_bytes (P := Tryz.prog) 9 75 5 Tryz.underlying9 Tryz.underlying75 Tryz.underlying5 d W
    have hds : d.size ≤ 9223372036854775807 := by omega
    have hrd := bytes_reads wc 5 d hds
    have hbb := bytes_below HB.out HB.out.size 5 d
    have hrc : ∀ i : Int, 0 ≤ i → i < (d.size : Int) → (Lib.bytesWorld wc 5 d).cell? ⟨wc.heap.size, i.toNat, none⟩ = some (.int .u8 (bt d i)) := fun i h0 h1 => by
      obtain ⟨ad, e, hc⟩ := hrd.at_ i h0 h1
      cases e
      rw [rd_bytesOf] at hc
      rwa [add_plain] at hc
    have HRC := Aside0.mk hrc
    have HBB := Aside0.mk hbb
    clear hrd hbb hrc HB
    go_wp2
    obtain ⟨wb, hwb⟩ : ∃ wb, Lib.bytesWorld wc 5 d = wb := ⟨_, rfl⟩
    obtain ⟨gc, hgc⟩ : ∃ gc, wc.heap.size = gc := ⟨_, rfl⟩
    rw [hwb] at HRC HBB ⊢
    rw [hgc] at HRC ⊢
    clear kb hwb hgc
    go_loopg [5, 40] k (fun kq v5 v40 w' => ∃ (n i : Int), v5 = .int .u64 n ∧ v40 = .int .i64 i ∧ w' = wb ∧ Aside0 (qnl kq b d n i = some (r1, r2)) ∧ Aside0 (kq ≤ k))
    case atStart => exact ⟨0, 0, rfl, rfl, rfl, HQ, ⟨Nat.le_refl _⟩⟩
    case round =>
      clear HQ
      obtain ⟨n, i, rfl, rfl, rfl, HA, HK⟩ := hrel
      cases gk with
      | zero => exact absurd HA.out (by simp [qnl])
      | succ k1 =>
        have H := HA.out
        clear HA
        simp only [qnl] at H
        by_cases c7 : i < (d.size : Int)
        · rw [if_pos c7] at H
          by_cases c8 : 0 ≤ i
          · rw [if_pos c8] at H
            have hcell := HRC.out i c8 c7
            have c7b := decide_eq_true c7
            have c8b := decide_eq_true c8
            have hbr := bt_range d i
            replace c7 := eq_true c7
            replace c8 := eq_true c8
            obtain ⟨x, hx⟩ : ∃ x, worthB (bt d i) = x := ⟨_, rfl⟩
            rw [hx] at H
            have HX := Aside0.mk hx
            have HBR := Aside0.mk hbr
            clear hx hbr
            by_cases c9 : IntKind.u64.wrap x ≥ b
            · rw [if_pos c9] at H
              obtain ⟨rfl, rfl⟩ : (0 : Int) = r1 ∧ false = r2 := by simpa using H
              have c9b : decide (b ≤ IntKind.u64.wrap x) = true := decide_eq_true c9
              clear c9 H
              go_wp2_with (go_at_call 101; refine (worth_calls _ HBR.out.1 HBR.out.2 _).mono ?_; rintro e w' ⟨rfl, rfl⟩; rw [HX.out])
              go_ret2
              exact ⟨rfl, HBB.out⟩
            · rw [if_neg c9, if_neg (by omega)] at H
              have c9b : decide (b ≤ IntKind.u64.wrap x) = false := decide_eq_false c9
              clear c9
              have hb0 : (b == 0) = false := beq_eq_false_iff_ne.mpr (by omega)
              obtain ⟨q, hq⟩ : ∃ q, IntKind.u64.wrap (Int.tdiv (IntKind.u64.wrap (18446744073709551615 - (IntKind.u64.wrap x))) b) = q := ⟨_, rfl⟩
              rw [hq] at H
              by_cases c10 : n > q
              · rw [if_pos c10] at H
                obtain ⟨rfl, rfl⟩ : (0 : Int) = r1 ∧ false = r2 := by simpa using H
                have c10b : decide (q < n) = true := decide_eq_true c10
                clear c10 H
                go_wp2_with (go_at_call 101; refine (worth_calls _ HBR.out.1 HBR.out.2 _).mono ?_; rintro e w' ⟨rfl, rfl⟩; rw [HX.out])
                go_ret2
                exact ⟨rfl, HBB.out⟩
              · rw [if_neg c10] at H
                have c10b : decide (q < n) = false := decide_eq_false c10
                clear c10
                have H' := Aside0.mk H
                clear H
                go_wp2_with (go_at_call 101; refine (worth_calls _ HBR.out.1 HBR.out.2 _).mono ?_; rintro e w' ⟨rfl, rfl⟩; rw [HX.out])
                go_roundg k1
                case measure => have := HK.out; omega
                case rel => exact ⟨_, _, rfl, rfl, rfl, H', ⟨by have := HK.out; omega⟩⟩
          · rw [if_neg c8] at H
            exact absurd H (by simp)
        · rw [if_neg c7] at H
          obtain ⟨rfl, rfl⟩ : n = r1 ∧ (d.toList != ([] : List UInt8)) = r2 := by simpa using H
          have c7b := decide_eq_false c7
          clear c7 H
          go_wp2
          go_ret2
          exact ⟨by simp [bne], HBB.out⟩
end Go.Proofs.YtdkepckkihclgaaGreatDoor.PNodeChecks
namespace Go.Proofs.YtdkepckkihclgaaGreatDoor.PNodeChecks
open Go.RowKit Go.Proofs.YtdkepckkihclgaaGreatDoorW.PrintWords Go.Proofs.YtdkepckkihclgaaGreatDoorW.PrintLast Go.Proofs.YtdkepckkihclgaaGreatDoorW.PrintMore
set_option linter.unusedVariables false
set_option linter.unusedSimpArgs false
def dOf (s : ByteArray) : ByteArray := ⟨(Lib.trimPrefix s.data.toList [45]).toArray⟩
def minusB (s : ByteArray) : Bool := Lib.hasPrefix s.data.toList [45]
theorem dOf_size (s : ByteArray) : (dOf s).size ≤ s.size := by
 show (dOf s).data.size ≤ s.data.size
 have : s.data.size = s.data.toList.length := by simp
 unfold dOf Lib.trimPrefix
 split <;> simp
def node_Int.f (k : Nat) (s : ByteArray) : Option (Int × Bool × Bool) :=
 (quote_Number.f k (dOf s)).bind fun t => if 0 ≤ t.1 ∧ t.1 < 18446744073709551616 then (if t.2 = true then (if digs t.1 = dOf s then (if minusB s = true then (if t.1 = 0 then some (0, false, false) else if t.1 > 9223372036854775808 then some (0, false, false) else some (t.1, true, true)) else some (t.1, false, true)) else some (0, false, false)) else some (0, false, false)) else none
set_option maxHeartbeats 8000000 in
set_option maxRecDepth 100000 in
theorem node_Int.calls (k : Nat) (s : ByteArray) (r1 : Int) (r2 r3 : Bool) (w : World) (hs : s.size < 4611686018427387904) (h : node_Int.f k s = some (r1, r2, r3)) :
  Calls Tryz.prog 57 #[.string s] w fun e w' => e = .returned (.tuple #[.int .u64 r1, .bool r2, .bool r3]) ∧ Below w.heap.size w w' := by
 obtain ⟨⟨n, is⟩, hq, h⟩ := Option.bind_eq_some_iff.mp h
 dsimp only at h
 split at h
 ·rename_i hN
  have HQ := Aside0.mk hq
  have HN := Aside0.mk hN
  clear hq hN
  obtain ⟨d, hd⟩ : ∃ d, dOf s = d := ⟨_, rfl⟩
  obtain ⟨mi, hmi⟩ : ∃ mi, minusB s = mi := ⟨_, rfl⟩
  have HS := Aside0.mk (show d.size < 4611686018427387904 by rw [← hd]; have := dOf_size s; omega)
  rw [hd] at HQ h
  rw [hmi] at h
  have HC := Aside0.mk (show (Value.tuple #[.string ⟨(Lib.trimPrefix s.data.toList (⟨#[45]⟩ : ByteArray).data.toList).toArray⟩, .bool (Lib.hasPrefix s.data.toList (⟨#[45]⟩ : ByteArray).data.toList)]) = .tuple #[.string d, .bool mi] by rw [← hd, ← hmi]; rfl)
  clear hd hmi
  have hN0 := HN.out.1
  cases is with
  | false =>
   rw [if_neg (by simp)] at h
   obtain ⟨rfl, rfl, rfl⟩ : (0 : Int) = r1 ∧ false = r2 ∧ false = r3 := by simpa using h
   clear h
   go_enter Tryz.func57, Tryz.ntmps57
   go_wp2_with (first | (go_at_call 81; refine (Tryz.strings_CutPrefix s ⟨#[45]⟩ _).mono ?_; rintro e w' ⟨rfl, rfl⟩; rw [HC.out]) | (go_at_call 82; refine (quote_Number.calls k d n false _ HS.out HQ.out).mono ?_; rintro e w' ⟨rfl, hb⟩; have HB := Aside0.mk hb; clear hb))
   go_ret3
   exact ⟨rfl, HB.out⟩
  | true =>
   rw [if_pos rfl] at h
   by_cases he : digs n = d
   ·rw [if_pos he] at h
    have hee : (digs n).toList = d.toList := by rw [he]
    cases mi with
    | false =>
     rw [if_neg (by simp)] at h
     obtain ⟨rfl, rfl, rfl⟩ : n = r1 ∧ false = r2 ∧ true = r3 := by simpa using h
     clear h
     go_enter Tryz.func57, Tryz.ntmps57
     go_wp2_with (first | (go_at_call 81; refine (Tryz.strings_CutPrefix s ⟨#[45]⟩ _).mono ?_; rintro e w' ⟨rfl, rfl⟩; rw [HC.out]) | (go_at_call 82; refine (quote_Number.calls k d n true _ HS.out HQ.out).mono ?_; rintro e w' ⟨rfl, hb⟩; have HB := Aside0.mk hb; clear hb) | (go_at_call 83; refine (quote_Digits.calls n _ HN.out.1 HN.out.2).mono ?_; rintro e w'' ⟨rfl, hb⟩; have HB2 := Aside0.mk (below_step HB.out hb); clear HB; have HB := HB2; clear HB2 hb))
     go_ret3
     exact ⟨rfl, HB.out⟩
    | true =>
     rw [if_pos rfl] at h
     by_cases h0 : n = 0
     ·rw [if_pos h0] at h
      obtain ⟨rfl, rfl, rfl⟩ : (0 : Int) = r1 ∧ false = r2 ∧ false = r3 := by simpa using h
      have h0b : (n == 0) = true := beq_iff_eq.mpr h0
      clear h h0
      go_enter Tryz.func57, Tryz.ntmps57
      go_wp2_with (first | (go_at_call 81; refine (Tryz.strings_CutPrefix s ⟨#[45]⟩ _).mono ?_; rintro e w' ⟨rfl, rfl⟩; rw [HC.out]) | (go_at_call 82; refine (quote_Number.calls k d n true _ HS.out HQ.out).mono ?_; rintro e w' ⟨rfl, hb⟩; have HB := Aside0.mk hb; clear hb) | (go_at_call 83; refine (quote_Digits.calls n _ HN.out.1 HN.out.2).mono ?_; rintro e w'' ⟨rfl, hb⟩; have HB2 := Aside0.mk (below_step HB.out hb); clear HB; have HB := HB2; clear HB2 hb))
      go_ret3
      exact ⟨rfl, HB.out⟩
     ·rw [if_neg h0] at h
      have h0b : (n == 0) = false := beq_eq_false_iff_ne.mpr h0
      by_cases h1 : n > 9223372036854775808
      ·rw [if_pos h1] at h
       obtain ⟨rfl, rfl, rfl⟩ : (0 : Int) = r1 ∧ false = r2 ∧ false = r3 := by simpa using h
       have h1b : decide (9223372036854775808 < n) = true := decide_eq_true h1
       clear h h1 h0
       go_enter Tryz.func57, Tryz.ntmps57
       go_wp2_with (first | (go_at_call 81; refine (Tryz.strings_CutPrefix s ⟨#[45]⟩ _).mono ?_; rintro e w' ⟨rfl, rfl⟩; rw [HC.out]) | (go_at_call 82; refine (quote_Number.calls k d n true _ HS.out HQ.out).mono ?_; rintro e w' ⟨rfl, hb⟩; have HB := Aside0.mk hb; clear hb) | (go_at_call 83; refine (quote_Digits.calls n _ HN.out.1 HN.out.2).mono ?_; rintro e w'' ⟨rfl, hb⟩; have HB2 := Aside0.mk (below_step HB.out hb); clear HB; have HB := HB2; clear HB2 hb))
       go_ret3
       exact ⟨rfl, HB.out⟩
      ·rw [if_neg h1] at h
       obtain ⟨rfl, rfl, rfl⟩ : n = r1 ∧ true = r2 ∧ true = r3 := by simpa using h
       have h1b : decide (9223372036854775808 < n) = false := decide_eq_false h1
       clear h h1 h0
       go_enter Tryz.func57, Tryz.ntmps57
       go_wp2_with (first | (go_at_call 81; refine (Tryz.strings_CutPrefix s ⟨#[45]⟩ _).mono ?_; rintro e w' ⟨rfl, rfl⟩; rw [HC.out]) | (go_at_call 82; refine (quote_Number.calls k d n true _ HS.out HQ.out).mono ?_; rintro e w' ⟨rfl, hb⟩; have HB := Aside0.mk hb; clear hb) | (go_at_call 83; refine (quote_Digits.calls n _ HN.out.1 HN.out.2).mono ?_; rintro e w'' ⟨rfl, hb⟩; have HB2 := Aside0.mk (below_step HB.out hb); clear HB; have HB := HB2; clear HB2 hb))
       go_ret3
       exact ⟨rfl, HB.out⟩
   ·rw [if_neg he] at h
    obtain ⟨rfl, rfl, rfl⟩ : (0 : Int) = r1 ∧ false = r2 ∧ false = r3 := by simpa using h
    have hee : ¬ (digs n).toList = d.toList := fun h => he (ByteArray.ext (Array.toList_inj.mp (by rw [ByteArray.toList_eq, ByteArray.toList_eq] at h; exact h)))
    clear h
    go_enter Tryz.func57, Tryz.ntmps57
    go_wp2_with (first | (go_at_call 81; refine (Tryz.strings_CutPrefix s ⟨#[45]⟩ _).mono ?_; rintro e w' ⟨rfl, rfl⟩; rw [HC.out]) | (go_at_call 82; refine (quote_Number.calls k d n true _ HS.out HQ.out).mono ?_; rintro e w' ⟨rfl, hb⟩; have HB := Aside0.mk hb; clear hb) | (go_at_call 83; refine (quote_Digits.calls n _ HN.out.1 HN.out.2).mono ?_; rintro e w'' ⟨rfl, hb⟩; have HB2 := Aside0.mk (below_step HB.out hb); clear HB; have HB := HB2; clear HB2 hb))
    go_ret3
    exact ⟨rfl, HB.out⟩
 ·cases h
end Go.Proofs.YtdkepckkihclgaaGreatDoor.PNodeChecks

import Derived.Test.YtdkepckkihclgaaGreatDoorM26
import Derived.Lib.SmallJoins
import Derived.Lib.IndexAny
namespace Go.Proofs.YtdkepckkihclgaaGreatDoor.PNodeChecks
open Go.RowKit Go.Proofs.YtdkepckkihclgaaGreatDoorW.PrintWords Go.Proofs.YtdkepckkihclgaaGreatDoorW.PrintLast Go.Proofs.YtdkepckkihclgaaGreatDoorW.PrintMore
set_option linter.unusedVariables false
set_option linter.unusedSimpArgs false
theorem rd_ps (ps : List ByteArray) (n : Nat) (hlt : n < ps.length) : rdOf ByteArray.empty ps (n : Int) = ps[n] := by
 unfold rdOf
 rw [Int.toNat_natCast, List.getD_eq_getElem?_getD, List.getElem?_eq_getElem hlt]
 rfl
def fnd (ps : List ByteArray) (s : ByteArray) : Bool := ps.any fun p => !(L p == []) && (L p == L s)
theorem word_loop (s : ByteArray) (ps : List ByteArray) (hl : ps.length ≤ 5000) : ∀ m n, n + m = ps.length → 1 ≤ n →
  ∃ r, Ev (fun k => glossaryref05_Word.l0 k s ps (ps.length : Int) (n : Int)) r ∧ (r != 0) = fnd (ps.drop n) s := by
 intro m
 induction m with
 | zero =>
  intro n hn h1
  rw [List.drop_eq_nil_of_le (by omega)]
  refine ⟨0, Ev.suc fun k => ?_, rfl⟩
  simp only [glossaryref05_Word.l0]
  rw [if_neg (by omega)]
 | succ m ih =>
  intro n hn h1
  have hlt : n < ps.length := by omega
  obtain ⟨r, hr, hf⟩ := ih (n + 1) (by omega) (by omega)
  rw [List.drop_eq_getElem_cons hlt]
  unfold fnd
  rw [List.any_cons]
  by_cases he : ps[n].toList = []
  ·refine ⟨r, Ev.step (f := fun k => glossaryref05_Word.l0 k s ps (ps.length : Int) ((n + 1 : Nat) : Int)) (fun k => ?_) hr, ?_⟩
   ·simp only [glossaryref05_Word.l0]
    rw [if_pos (by omega), if_pos (by omega), if_pos (by omega), rd_ps ps n hlt, if_pos he, w1 n (by omega)]
   ·rw [tl] at he
    rw [hf, he]
    rfl
  ·by_cases hs : ps[n].toList = s.toList
   ·refine ⟨(n : Int), Ev.suc fun k => ?_, ?_⟩
    ·simp only [glossaryref05_Word.l0]
     rw [if_pos (by omega), if_pos (by omega), if_pos (by omega), rd_ps ps n hlt, if_neg he, if_pos hs]
    ·rw [tl] at he hs
     rw [tl] at hs
     have h0 : (L ps[n] == []) = false := beq_eq_false_iff_ne.mpr he
     rw [h0, hs]
     have : ((n : Int) != 0) = true := bne_iff_ne.mpr (by omega)
     rw [this]
     simp
   ·refine ⟨r, Ev.step (f := fun k => glossaryref05_Word.l0 k s ps (ps.length : Int) ((n + 1 : Nat) : Int)) (fun k => ?_) hr, ?_⟩
    ·simp only [glossaryref05_Word.l0]
     rw [if_pos (by omega), if_pos (by omega), if_pos (by omega), rd_ps ps n hlt, if_neg he, if_neg hs, w1 n (by omega)]
    ·rw [tl, tl] at hs
     have h0 : (L ps[n] == L s) = false := beq_eq_false_iff_ne.mpr hs
     rw [hf, h0]
     simp [fnd]
theorem fnd_mem (ps : List ByteArray) (s : ByteArray) : fnd ps s = true ↔ L s ∈ (ps.map L).filter (fun l => !(l == [])) := by
 unfold fnd
 rw [List.any_eq_true, List.mem_filter]
 constructor
 ·rintro ⟨p, hp, h⟩
  simp only [Bool.and_eq_true, beq_iff_eq] at h
  exact ⟨List.mem_map.2 ⟨p, hp, h.2⟩, by rw [← h.2]; exact h.1⟩
 ·rintro ⟨h, h2⟩
  obtain ⟨p, hp, e⟩ := List.mem_map.1 h
  exact ⟨p, hp, by rw [e, h2, beq_self_eq_true]; rfl⟩
def plainL : List (List UInt8) := [[100, 111, 117, 98, 108, 101], [102, 108, 111, 97, 116], [105, 110, 116, 51, 50], [105, 110, 116, 54, 52], [117, 105, 110, 116, 51, 50], [117, 105, 110, 116, 54, 52], [115, 105, 110, 116, 51, 50], [115, 105, 110, 116, 54, 52], [102, 105, 120, 101, 100, 51, 50], [102, 105, 120, 101, 100, 54, 52], [115, 102, 105, 120, 101, 100, 51, 50], [115, 102, 105, 120, 101, 100, 54, 52], [98, 111, 111, 108], [115, 116, 114, 105, 110, 103], [98, 121, 116, 101, 115]]
theorem plainB_iff (s : ByteArray) : plainB s = true ↔ L s ∈ plainL := by
 unfold plainB
 rw [decide_eq_true_eq, tl]
 rfl
theorem E_word (s : ByteArray) : ∃ r, Ev (fun k => glossaryref05_Word.f k s) r ∧ (r != 0) = plainB s := by
 unfold glossaryref05_Word.f
 simp only [Option.bind_some]
 generalize hW : ([(⟨#[]⟩ : ByteArray), (⟨#[100, 111, 117, 98, 108, 101]⟩ : ByteArray), (⟨#[102, 108, 111, 97, 116]⟩ : ByteArray), (⟨#[105, 110, 116, 54, 52]⟩ : ByteArray), (⟨#[117, 105, 110, 116, 54, 52]⟩ : ByteArray), (⟨#[105, 110, 116, 51, 50]⟩ : ByteArray), (⟨#[102, 105, 120, 101, 100, 54, 52]⟩ : ByteArray), (⟨#[102, 105, 120, 101, 100, 51, 50]⟩ : ByteArray), (⟨#[98, 111, 111, 108]⟩ : ByteArray), (⟨#[115, 116, 114, 105, 110, 103]⟩ : ByteArray), (⟨#[]⟩ : ByteArray), (⟨#[]⟩ : ByteArray), (⟨#[98, 121, 116, 101, 115]⟩ : ByteArray), (⟨#[117, 105, 110, 116, 51, 50]⟩ : ByteArray), (⟨#[]⟩ : ByteArray), (⟨#[115, 102, 105, 120, 101, 100, 51, 50]⟩ : ByteArray), (⟨#[115, 102, 105, 120, 101, 100, 54, 52]⟩ : ByteArray), (⟨#[115, 105, 110, 116, 51, 50]⟩ : ByteArray), (⟨#[115, 105, 110, 116, 54, 52]⟩ : ByteArray)] : List ByteArray) = W
 have hlen : W.length = 19 := by rw [← hW]; rfl
 have h0 : rdOf ByteArray.empty W 0 = ⟨#[]⟩ := by rw [← hW]; rfl
 obtain ⟨r, hr, hf⟩ := word_loop s W (by omega) 18 1 (by omega) (by omega)
 refine ⟨r, Ev.step (f := fun k => glossaryref05_Word.l0 k s W (W.length : Int) ((1 : Nat) : Int)) (fun k => ?_) hr, ?_⟩
 ·simp only [glossaryref05_Word.l0]
  rw [if_pos (by omega), if_pos (by omega), if_pos (by omega), h0, if_pos (by rw [tl])]
  exact congrArg _ (w1 0 (by omega))
 ·rw [hf, Bool.eq_iff_iff, fnd_mem, plainB_iff, ← hW]
  have e1 : ∀ x ∈ ((List.drop 1 ([(⟨#[]⟩ : ByteArray), (⟨#[100, 111, 117, 98, 108, 101]⟩ : ByteArray), (⟨#[102, 108, 111, 97, 116]⟩ : ByteArray), (⟨#[105, 110, 116, 54, 52]⟩ : ByteArray), (⟨#[117, 105, 110, 116, 54, 52]⟩ : ByteArray), (⟨#[105, 110, 116, 51, 50]⟩ : ByteArray), (⟨#[102, 105, 120, 101, 100, 54, 52]⟩ : ByteArray), (⟨#[102, 105, 120, 101, 100, 51, 50]⟩ : ByteArray), (⟨#[98, 111, 111, 108]⟩ : ByteArray), (⟨#[115, 116, 114, 105, 110, 103]⟩ : ByteArray), (⟨#[]⟩ : ByteArray), (⟨#[]⟩ : ByteArray), (⟨#[98, 121, 116, 101, 115]⟩ : ByteArray), (⟨#[117, 105, 110, 116, 51, 50]⟩ : ByteArray), (⟨#[]⟩ : ByteArray), (⟨#[115, 102, 105, 120, 101, 100, 51, 50]⟩ : ByteArray), (⟨#[115, 102, 105, 120, 101, 100, 54, 52]⟩ : ByteArray), (⟨#[115, 105, 110, 116, 51, 50]⟩ : ByteArray), (⟨#[115, 105, 110, 116, 54, 52]⟩ : ByteArray)] : List ByteArray)).map L).filter (fun l => !(l == [])), x ∈ plainL := by decide +kernel
  have e2 : ∀ x ∈ plainL, x ∈ ((List.drop 1 ([(⟨#[]⟩ : ByteArray), (⟨#[100, 111, 117, 98, 108, 101]⟩ : ByteArray), (⟨#[102, 108, 111, 97, 116]⟩ : ByteArray), (⟨#[105, 110, 116, 54, 52]⟩ : ByteArray), (⟨#[117, 105, 110, 116, 54, 52]⟩ : ByteArray), (⟨#[105, 110, 116, 51, 50]⟩ : ByteArray), (⟨#[102, 105, 120, 101, 100, 54, 52]⟩ : ByteArray), (⟨#[102, 105, 120, 101, 100, 51, 50]⟩ : ByteArray), (⟨#[98, 111, 111, 108]⟩ : ByteArray), (⟨#[115, 116, 114, 105, 110, 103]⟩ : ByteArray), (⟨#[]⟩ : ByteArray), (⟨#[]⟩ : ByteArray), (⟨#[98, 121, 116, 101, 115]⟩ : ByteArray), (⟨#[117, 105, 110, 116, 51, 50]⟩ : ByteArray), (⟨#[]⟩ : ByteArray), (⟨#[115, 102, 105, 120, 101, 100, 51, 50]⟩ : ByteArray), (⟨#[115, 102, 105, 120, 101, 100, 54, 52]⟩ : ByteArray), (⟨#[115, 105, 110, 116, 51, 50]⟩ : ByteArray), (⟨#[115, 105, 110, 116, 54, 52]⟩ : ByteArray)] : List ByteArray)).map L).filter (fun l => !(l == [])) := by decide +kernel
  exact ⟨e1 _, e2 _⟩
def kwL : List (List UInt8) := [[109, 101, 115, 115, 97, 103, 101], [101, 110, 117, 109], [101, 120, 116, 101, 110, 100], [101, 120, 116, 101, 110, 115, 105, 111, 110, 115], [111, 112, 116, 105, 111, 110], [111, 110, 101, 111, 102], [109, 97, 112], [114, 101, 115, 101, 114, 118, 101, 100], [111, 112, 116, 105, 111, 110, 97, 108], [114, 101, 113, 117, 105, 114, 101, 100], [114, 101, 112, 101, 97, 116, 101, 100], [114, 112, 99], [115, 101, 114, 118, 105, 99, 101], [105, 109, 112, 111, 114, 116], [112, 97, 99, 107, 97, 103, 101], [115, 121, 110, 116, 97, 120], [115, 116, 114, 101, 97, 109], [114, 101, 116, 117, 114, 110, 115], [116, 111], [109, 97, 120], [112, 117, 98, 108, 105, 99]]
def sp : List UInt8 → List UInt8 → List (List UInt8)
 | pre, [] => [pre]
 | pre, c :: l => if c = 32 then pre :: sp [] l else sp (pre ++ [c]) l
theorem sp_blank (pre l : List UInt8) : sp pre (32 :: l) = pre :: sp [] l := by conv => lhs; unfold sp; simp
theorem sp_char {c : UInt8} (h : c ≠ 32) (pre l : List UInt8) : sp pre (c :: l) = sp (pre ++ [c]) l := by conv => lhs; unfold sp; rw [if_neg h]
theorem sp_app : ∀ (a b pre : List UInt8), sp pre (a ++ 32 :: b) = sp pre a ++ sp [] b := by
 intro a
 induction a with
 | nil => intro b pre; rw [List.nil_append, sp_blank]; simp [sp]
 | cons c a ih =>
  intro b pre
  rw [List.cons_append]
  by_cases h : c = 32
  ·subst h; rw [sp_blank, sp_blank, ih]; rfl
  ·rw [sp_char h, sp_char h, ih]
theorem sp_no : ∀ (t post pre : List UInt8), (∀ c ∈ t, c ≠ 32) → sp pre (t ++ 32 :: post) = (pre ++ t) :: sp [] post := by
 intro t
 induction t with
 | nil => intro post pre _; rw [List.nil_append, sp_blank, List.append_nil]
 | cons c t ih =>
  intro post pre h
  rw [List.cons_append, sp_char (h c (List.mem_cons_self ..)), ih post _ (fun d hd => h d (List.mem_cons_of_mem _ hd))]
  simp
def keyL (l : List UInt8) : Bool := !(l == []) && (decide (Lib.indexByte l 32 < 0) && Lib.contains (L kwTab) (32 :: (l ++ [32])))
theorem keyB_L (s : ByteArray) : keyB s = keyL (L s) := by
 unfold keyB keyL
 rw [tl]
 have : ((⟨#[32]⟩ : ByteArray) ++ s ++ ⟨#[32]⟩).data.toList = 32 :: (L s ++ [32]) := by
  rw [Joins.data_append, Joins.data_append]
  rfl
 rw [this]
theorem key_all : (kwL ++ plainL).all keyL = true := by decide +kernel
theorem sp_tab : (sp [] (L kwTab)).all (fun x => (x == []) || decide (x ∈ kwL ++ plainL)) = true := by decide +kernel
theorem keyL_iff (l : List UInt8) : keyL l = true ↔ l ∈ kwL ++ plainL := by
 constructor
 ·intro h
  unfold keyL at h
  simp only [Bool.and_eq_true, decide_eq_true_eq] at h
  obtain ⟨h0, h1, h2⟩ := h
  have hno : ∀ c ∈ l, c ≠ 32 := by
   intro c hc e
   subst e
   have := Lib.contains_iff_indexByte l 32
   rw [List.contains_iff_mem.2 hc] at this
   have := of_decide_eq_true this.symm
   omega
  unfold Lib.contains at h2
  rw [decide_eq_true_eq] at h2
  rcases Lib.index_spec (L kwTab) (32 :: (l ++ [32])) with ⟨h3, _⟩ | ⟨i, _, _, ho, _⟩
  ·rw [h3] at h2; exact absurd h2 (by decide)
  ·obtain ⟨post, hp⟩ := List.isPrefixOf_iff_prefix.1 ho
   have hW : L kwTab = (L kwTab).take i ++ 32 :: (l ++ 32 :: post) := by
    conv => lhs; rw [← List.take_append_drop i (L kwTab), ← hp]
    simp
   have hm : l ∈ sp [] (L kwTab) := by
    rw [hW, sp_app, sp_no l post [] hno]
    simp
   have := List.all_eq_true.1 sp_tab l hm
   simp only [Bool.or_eq_true, decide_eq_true_eq] at this
   rcases this with e | e
   ·rw [e] at h0; exact absurd h0 (by decide)
   ·exact e
 ·intro h
  exact List.all_eq_true.1 key_all l h
theorem kw_loop (s : ByteArray) (ps : List ByteArray) (hl : ps.length ≤ 5000) : ∀ m n, n + m = ps.length →
  Ev (fun k => glossaryref05_Keyword.l0 k s ps (ps.length : Int) (n : Int)) ((ps.drop n).any (fun p => L p == L s) || plainB s) := by
 intro m
 induction m with
 | zero =>
  intro n hn
  rw [List.drop_eq_nil_of_le (by omega)]
  obtain ⟨r, hr, hf⟩ := E_word s
  refine Ev.step (f := fun k => (glossaryref05_Word.f k s).bind fun t => some (t != 0)) (fun k => ?_) ?_
  ·simp only [glossaryref05_Keyword.l0]
   rw [if_neg (by omega)]
  ·have := Ev.bind (f := fun _ t => some (t != 0)) hr (Ev.now _)
   rw [hf] at this
   exact this
 | succ m ih =>
  intro n hn
  have hlt : n < ps.length := by omega
  rw [List.drop_eq_getElem_cons hlt, List.any_cons]
  by_cases hs : ps[n].toList = s.toList
  ·refine Ev.suc fun k => ?_
   simp only [glossaryref05_Keyword.l0]
   rw [if_pos (by omega), if_pos (by omega), if_pos (by omega), rd_ps ps n hlt, if_pos hs]
   rw [tl, tl] at hs
   rw [hs]
   simp
  ·refine Ev.step (f := fun k => glossaryref05_Keyword.l0 k s ps (ps.length : Int) ((n + 1 : Nat) : Int)) (fun k => ?_) ?_
   ·simp only [glossaryref05_Keyword.l0]
    rw [if_pos (by omega), if_pos (by omega), if_pos (by omega), rd_ps ps n hlt, if_neg hs, w1 n (by omega)]
   ·rw [tl, tl] at hs
    rw [beq_eq_false_iff_ne.mpr hs, Bool.false_or]
    exact ih (n + 1) (by omega)
theorem any_map (ps : List ByteArray) (s : ByteArray) : ps.any (fun p => L p == L s) = decide (L s ∈ ps.map L) := by
 rw [Bool.eq_iff_iff, List.any_eq_true, decide_eq_true_eq, List.mem_map]
 constructor
 ·rintro ⟨p, hp, h⟩; exact ⟨p, hp, by simpa using h⟩
 ·rintro ⟨p, hp, h⟩; exact ⟨p, hp, by simp [h]⟩
theorem E_kw (s : ByteArray) : Ev (fun k => glossaryref05_Keyword.f k s) (keyB s) := by
 unfold glossaryref05_Keyword.f
 simp only [Option.bind_some]
 have := kw_loop s (kwL.map ba) (by decide) 21 0 (by decide)
 rw [List.drop_zero, any_map] at this
 have e : (decide (L s ∈ (kwL.map ba).map L) || plainB s) = keyB s := by
  rw [keyB_L, Bool.eq_iff_iff, keyL_iff, List.mem_append, Bool.or_eq_true, decide_eq_true_eq, plainB_iff]
  exact Iff.rfl
 rw [e] at this
 exact this
theorem cut_head (s : ByteArray) : rdOf ByteArray.empty (partsB s) 0 = cutB s := by
 unfold partsB cutB Lib.cut
 rw [show (⟨#[46]⟩ : ByteArray).data.toList = [46] from rfl, Lib.index_one, gl_index]
 by_cases h : Lib.indexByte s.data.toList 46 < 0
 ·rw [if_pos h, if_neg (by omega)]
  rfl
 ·rw [if_neg h, if_pos (by omega)]
  rfl
theorem E_type (s : ByteArray) (hs : s.size ≤ 2000) : Ev (fun k => glossaryref07_Type.f k s) (if prefB s ⟨#[46]⟩ = true then (refB s, true) else if plainB s = true then (true, false) else (fullB s && !(keyB (cutB s)), true)) := by
 have hj : prefB s ⟨#[46]⟩ = false → Ev (fun k => glossaryref07_Type.j0 k s false) (if plainB s = true then (true, false) else (fullB s && !(keyB (cutB s)), true)) := by
  intro hp
  obtain ⟨r, hr, hf⟩ := E_word s
  refine Ev.step (f := fun k => (glossaryref05_Word.f k s).bind fun t => if t = 0 then ((glossaryref05_Full.f k s).bind fun t163 => (if t163 = true then ((glossaryref05_Parts.f k s).bind fun t164 => (if 0 < (t164.length : Int) then ((glossaryref05_Keyword.f k (rdOf ByteArray.empty t164 0)).bind fun t168 => (some (!t168, true))) else (none))) else (some (false, true)))) else some (true, false)) (fun k => by simp only [glossaryref07_Type.j0]; rfl) ?_
  refine Ev.bind hr ?_
  rw [← hf]
  by_cases h0 : r = 0
  ·subst h0
   simp only [if_true, bne_self_eq_false, Bool.false_eq_true, if_false]
   refine Ev.bind (E_full s (by omega)) ?_
   cases fullB s with
   | false => exact Ev.now _
   | true =>
    simp only [if_true, Bool.true_and]
    refine Ev.bind (E_parts s (by omega)) ?_
    have hl : 0 < ((partsB s).length : Int) := by
     have := gl_pos (L s) []
     simp only [partsB, List.length_map]
     omega
    simp only [hl, if_true, cut_head]
    exact Ev.bind (f := fun _ t => some (!t, true)) (E_kw _) (Ev.now _)
  ·have : (r != 0) = true := bne_iff_ne.mpr h0
   rw [this]
   simp only [h0, if_false, if_true]
   exact Ev.now _
 have h1 := pref46 s
 unfold glossaryref07_Type.f
 by_cases he : s.toList = []
 ·have h0 : s.size = 0 := by rw [tl] at he; rw [← L_len, he]; rfl
  have hp : prefB s ⟨#[46]⟩ = false := by rw [h1]; simp [h0]
  have := hj hp
  rw [hp]
  simp only [Bool.false_eq_true, if_false]
  exact Ev.congr (fun k => by rw [if_pos he]) this
 ·have hpos : 0 < s.size := by
   rw [← L_len]
   exact List.length_pos_iff.2 (fun e => he (by rw [tl]; exact e))
  cases hb : (bt s 0 == 46) with
  | false =>
   have hp : prefB s ⟨#[46]⟩ = false := by rw [h1, hb]; simp
   have := hj hp
   rw [hp]
   simp only [Bool.false_eq_true, if_false]
   exact Ev.congr (fun k => by rw [if_neg he, if_pos (by omega)]) this
  | true =>
   have hp : prefB s ⟨#[46]⟩ = true := by rw [h1, hb]; simp [hpos]
   rw [hp]
   simp only [if_true]
   refine Ev.congr (f := fun k => glossaryref07_Type.j0 k s true) (fun k => by rw [if_neg he, if_pos (by omega)]) ?_
   refine Ev.step (f := fun k => (glossaryref07_ref.f k s).bind fun t => some (t, true)) (fun k => by simp only [glossaryref07_Type.j0]; rfl) ?_
   exact Ev.bind (f := fun _ t => some (t, true)) (E_ref s hs) (Ev.now _)
def dgB (c : Int) : Int := if 48 ≤ c ∧ c ≤ 57 then (c - 48) % 256 else if 97 ≤ c ∧ c ≤ 102 then (c - 97) % 256 + 10 else if 65 ≤ c ∧ c ≤ 70 then (c - 65) % 256 + 10 else 99
theorem E_digit (c : Int) : Ev (fun k => glossaryref01_digit.f k c) (dgB c) := by
 unfold glossaryref01_digit.f dgB
 have j1t : Ev (fun k => glossaryref01_digit.j1 k c true) ((c - 97) % 256 + 10) := Ev.suc fun k => by simp only [glossaryref01_digit.j1]; rfl
 have j1f : Ev (fun k => glossaryref01_digit.j1 k c false) (if 65 ≤ c ∧ c ≤ 70 then (c - 65) % 256 + 10 else 99) := Ev.suc fun k => by
  simp only [glossaryref01_digit.j1]
  by_cases h1 : 65 ≤ c <;> by_cases h2 : c ≤ 70 <;> simp [h1, h2]
 have j0f : Ev (fun k => glossaryref01_digit.j0 k c false) (if 97 ≤ c ∧ c ≤ 102 then (c - 97) % 256 + 10 else if 65 ≤ c ∧ c ≤ 70 then (c - 65) % 256 + 10 else 99) := by
  by_cases h1 : 97 ≤ c
  ·by_cases h2 : c ≤ 102
   ·rw [if_pos ⟨h1, h2⟩]
    exact Ev.step (fun k => by simp [glossaryref01_digit.j0, h1, h2]) j1t
   ·rw [if_neg (by omega)]
    exact Ev.step (fun k => by simp [glossaryref01_digit.j0, h1, h2]) j1f
  ·rw [if_neg (by omega)]
   exact Ev.step (fun k => by simp [glossaryref01_digit.j0, h1]) j1f
 have j0t : Ev (fun k => glossaryref01_digit.j0 k c true) ((c - 48) % 256) := Ev.suc fun k => by simp only [glossaryref01_digit.j0]; rfl
 by_cases h1 : 48 ≤ c
 ·by_cases h2 : c ≤ 57
  ·rw [if_pos ⟨h1, h2⟩]
   exact Ev.congr (fun k => by simp [h1, h2]) j0t
  ·rw [if_neg (by omega)]
   exact Ev.congr (fun k => by simp [h1, h2]) j0f
 ·rw [if_neg (by omega)]
  exact Ev.congr (fun k => by simp [h1]) j0f
theorem u64w (n : Int) (h0 : 0 ≤ n) (h1 : n < 18446744073709551616) : IntKind.u64.wrap n = n := by
 unfold IntKind.wrap
 simp [IntKind.signed, IntKind.bits]
 omega
theorem u64r (n : Int) : 0 ≤ IntKind.u64.wrap n ∧ IntKind.u64.wrap n < 18446744073709551616 := by
 unfold IntKind.wrap
 simp [IntKind.signed, IntKind.bits]
 omega
theorem dg_same (c b : Int) (h : 0 ≤ c ∧ c ≤ 255) (hb : b ≤ 16) : dgB c = worthB c ∨ (dgB c ≥ b ∧ worthB c ≥ b ∧ dgB c = 99 ∧ worthB c = 16) := by
 unfold dgB worthB
 by_cases h1 : 48 ≤ c ∧ c ≤ 57
 ·rw [if_pos h1, if_pos h1]; left; omega
 ·rw [if_neg h1, if_neg h1]
  by_cases h2 : 97 ≤ c ∧ c ≤ 102
  ·rw [if_pos h2, if_pos h2]; left; omega
  ·rw [if_neg h2, if_neg h2]
   by_cases h3 : 65 ≤ c ∧ c ≤ 70
   ·rw [if_pos h3, if_pos h3]; left; omega
   ·rw [if_neg h3, if_neg h3]; right; omega
theorem num_loop (s : ByteArray) (hs : s.size ≤ 4000) (b : Int) (hb : 8 ≤ b ∧ b ≤ 16) : ∀ m (n : Nat) (v : Int), n + m = s.size → 0 ≤ v ∧ v < 18446744073709551616 →
  ∃ r : Int × Bool, Ev (fun k => qnl k b s v (n : Int)) r ∧ Ev (fun k => glossaryref01_Number.l0 k b s v (n : Int)) r ∧ 0 ≤ r.1 ∧ r.1 < 18446744073709551616 := by
 intro m
 induction m with
 | zero =>
  intro n v hn hv
  refine ⟨(v, s.toList != ([] : List UInt8)), Ev.suc fun k => ?_, Ev.suc fun k => ?_, hv.1, hv.2⟩
  ·simp only [qnl]; rw [if_neg (by omega)]
  ·simp only [glossaryref01_Number.l0]; rw [if_neg (by omega)]
 | succ m ih =>
  intro n v hn hv
  have hc := bt_range s (n : Int)
  have hD := E_digit (bt s n)
  have hw : IntKind.u64.wrap (worthB (bt s n)) = worthB (bt s n) := u64w _ (by unfold worthB; split <;> (try split) <;> (try split) <;> omega) (by unfold worthB; split <;> (try split) <;> (try split) <;> omega)
  have hd : IntKind.u64.wrap (dgB (bt s n)) = dgB (bt s n) := u64w _ (by unfold dgB; split <;> (try split) <;> (try split) <;> omega) (by unfold dgB; split <;> (try split) <;> (try split) <;> omega)
  by_cases hge : worthB (bt s n) ≥ b
  ·have hge2 : dgB (bt s n) ≥ b := by rcases dg_same (bt s n) b hc hb.2 with e | e <;> omega
   refine ⟨(0, false), Ev.suc fun k => ?_, ?_, by decide, by decide⟩
   ·simp only [qnl]; rw [if_pos (by omega), if_pos (by omega), hw, if_pos hge]
   ·refine Ev.step (fun k => by simp only [glossaryref01_Number.l0]; rw [if_pos (by omega), if_pos (by omega)]) (Ev.bind hD ?_)
    rw [hd]
    simp only [hge2, if_true]
    exact Ev.now _
  ·have he : dgB (bt s n) = worthB (bt s n) := by rcases dg_same (bt s n) b hc hb.2 with e | e <;> omega
   have hge2 : ¬ dgB (bt s n) ≥ b := by omega
   have hb0 : ¬ b = 0 := by omega
   by_cases hov : v > (IntKind.u64.wrap (Int.tdiv (IntKind.u64.wrap (18446744073709551615 - (IntKind.u64.wrap (worthB (bt s n))))) b))
   ·refine ⟨(0, false), Ev.suc fun k => ?_, ?_, by decide, by decide⟩
    ·simp only [qnl]; rw [if_pos (by omega), if_pos (by omega), if_neg (by rw [hw]; exact hge), if_neg hb0, if_pos hov]
    ·refine Ev.step (fun k => by simp only [glossaryref01_Number.l0]; rw [if_pos (by omega), if_pos (by omega)]) (Ev.bind hD ?_)
     rw [hd, he, ← hw]
     rw [hw] at hov ⊢
     simp only [show ¬ worthB (bt s n) ≥ b from hge, hb0, hov, if_false, if_true]
     exact Ev.now _
   ·obtain ⟨r, h1, h2, h3⟩ := ih (n + 1) (IntKind.u64.wrap ((IntKind.u64.wrap (v * b)) + (IntKind.u64.wrap (worthB (bt s n))))) (by omega) (u64r _)
    refine ⟨r, Ev.step (fun k => ?_) h1, ?_, h3⟩
    ·simp only [qnl]; rw [if_pos (by omega), if_pos (by omega), if_neg (by rw [hw]; exact hge), if_neg hb0, if_neg hov, w1 n (by omega)]
    ·refine Ev.step (fun k => by simp only [glossaryref01_Number.l0]; rw [if_pos (by omega), if_pos (by omega)]) (Ev.bind hD ?_)
     rw [hd, he]
     rw [hw] at hov h2
     simp only [show ¬ worthB (bt s n) ≥ b from hge, hb0, hov, if_false]
     rw [w1 n (by omega)]
     exact h2
theorem E_num (s : ByteArray) (hs : s.size ≤ 4000) : ∃ r : Int × Bool, Ev (fun k => quote_Number.f k s) r ∧ Ev (fun k => glossaryref01_Number.f k s) r ∧ 0 ≤ r.1 ∧ r.1 < 18446744073709551616 := by
 have hex : ∀ a, (s.extract a s.size).size ≤ 4000 := by
  intro a
  rw [← L_len, show L (s.extract _ _) = _ from Lib.extract_data s _ _, List.length_take, List.length_drop, L_len]
  omega
 obtain ⟨r16, a1, a2, a3⟩ := num_loop (s.extract 2 s.size) (hex 2) 16 (by decide) _ 0 0 (Nat.zero_add _) (by decide)
 obtain ⟨r8, b1, b2, b3⟩ := num_loop (s.extract 1 s.size) (hex 1) 8 (by decide) _ 0 0 (Nat.zero_add _) (by decide)
 obtain ⟨r10, c1, c2, c3⟩ := num_loop s hs 10 (by decide) _ 0 0 (Nat.zero_add _) (by decide)
 have a1 : Ev (fun k => qnl k 16 (s.extract 2 s.size) 0 0) r16 := a1
 have b1 : Ev (fun k => qnl k 8 (s.extract 1 s.size) 0 0) r8 := b1
 have c1 : Ev (fun k => qnl k 10 s 0 0) r10 := c1
 have a2 : Ev (fun k => glossaryref01_Number.l0 k 16 (s.extract 2 s.size) 0 0) r16 := a2
 have b2 : Ev (fun k => glossaryref01_Number.l0 k 8 (s.extract 1 s.size) 0 0) r8 := b2
 have c2 : Ev (fun k => glossaryref01_Number.l0 k 10 s 0 0) r10 := c2
 have j16 : Ev (fun k => glossaryref01_Number.j1 k 16 (s.extract 2 s.size)) r16 := Ev.step (fun k => by simp only [glossaryref01_Number.j1]) a2
 have j8 : Ev (fun k => glossaryref01_Number.j1 k 8 (s.extract 1 s.size)) r8 := Ev.step (fun k => by simp only [glossaryref01_Number.j1]) b2
 have j10 : Ev (fun k => glossaryref01_Number.j1 k 10 s) r10 := Ev.step (fun k => by simp only [glossaryref01_Number.j1]) c2
 unfold quote_Number.f
 by_cases hx : hexB s = true
 ·refine ⟨r16, Ev.congr (fun k => by rw [if_pos hx]) a1, ?_, a3⟩
  have hx0 := hx
  unfold hexB at hx
  simp only [Bool.and_eq_true, decide_eq_true_eq, beq_iff_eq, Bool.or_eq_true] at hx
  have jt : Ev (fun k => glossaryref01_Number.j0 k s 10 s true) r16 := Ev.step (fun k => by simp only [glossaryref01_Number.j0]; rw [if_pos trivial, if_pos (by omega)]) j16
  unfold glossaryref01_Number.f
  rcases hx.2.2 with h | h
  ·exact Ev.congr (fun k => by rw [if_pos hx.1, if_pos (by omega), if_pos hx.2.1, if_pos (by omega), if_pos h]) jt
  ·exact Ev.congr (fun k => by rw [if_pos hx.1, if_pos (by omega), if_pos hx.2.1, if_pos (by omega), if_neg (by omega), h]; rfl) jt
 ·have hfalse : ∀ r, Ev (fun k => glossaryref01_Number.j0 k s 10 s false) r → Ev (fun k => glossaryref01_Number.f k s) r := by
   intro r hr
   unfold glossaryref01_Number.f
   by_cases h1 : (s.size : Int) > 2
   ·by_cases h2 : bt s 0 = 48
    ·have h3 : ¬ bt s 1 = 120 := fun e => hx (by unfold hexB; rw [h2, e]; simp; omega)
     have h4 : ¬ bt s 1 = 88 := fun e => hx (by unfold hexB; rw [h2, e]; simp; omega)
     have h5 : (bt s 1 == 88) = false := beq_eq_false_iff_ne.mpr h4
     exact Ev.congr (fun k => by rw [if_pos h1, if_pos (by omega), if_pos h2, if_pos (by omega), if_neg h3, h5]) hr
    ·exact Ev.congr (fun k => by rw [if_pos h1, if_pos (by omega), if_neg h2]) hr
   ·exact Ev.congr (fun k => by rw [if_neg h1]) hr
  by_cases ho : octB s = true
  ·refine ⟨r8, Ev.congr (fun k => by rw [if_neg hx, if_pos ho]) b1, hfalse _ ?_, b3⟩
   unfold octB at ho
   simp only [Bool.and_eq_true, decide_eq_true_eq, beq_iff_eq] at ho
   exact Ev.step (fun k => by simp only [glossaryref01_Number.j0, Bool.false_eq_true, if_false]; rw [if_pos ho.1, if_pos (by omega), if_pos ho.2, if_pos (by omega)]) j8
  ·refine ⟨r10, Ev.congr (fun k => by rw [if_neg hx, if_neg ho]) c1, hfalse _ ?_, c3⟩
   by_cases h1 : (s.size : Int) > 1
   ·have h2 : ¬ bt s 0 = 48 := fun e => ho (by unfold octB; rw [e]; simp; omega)
    exact Ev.step (fun k => by simp only [glossaryref01_Number.j0, Bool.false_eq_true, if_false]; rw [if_pos h1, if_pos (by omega), if_neg h2]) j10
   ·exact Ev.step (fun k => by simp only [glossaryref01_Number.j0, Bool.false_eq_true, if_false]; rw [if_neg h1]) j10
theorem E_int (s : ByteArray) (hs : s.size ≤ 4000) : ∃ r, Ev (fun k => node_Int.f k s) r ∧ Ev (fun k => refInt.f k s) r := by
 obtain ⟨r, h1, h2, h3⟩ := E_num (dOf s) (by have := dOf_size s; omega)
 have key : ∃ q, (if 0 ≤ r.1 ∧ r.1 < 18446744073709551616 then (if r.2 = true then (if digs r.1 = dOf s then (if minusB s = true then (if r.1 = 0 then some (0, false, false) else if r.1 > 9223372036854775808 then some (0, false, false) else some (r.1, true, true)) else some (r.1, false, true)) else some (0, false, false)) else some (0, false, false)) else none) = some q := by
  rw [if_pos h3]
  repeat' split
  all_goals exact ⟨_, rfl⟩
 obtain ⟨q, hq⟩ := key
 exact ⟨q, Ev.bind h1 (Ev.all fun _ => hq), Ev.bind h2 (Ev.all fun _ => hq)⟩
end Go.Proofs.YtdkepckkihclgaaGreatDoor.PNodeChecks
namespace Go.Proofs.YtdkepckkihclgaaGreatDoor.PNodeChecks
open Go.RowKit Go.Proofs.YtdkepckkihclgaaGreatDoorW.PrintWords Go.Proofs.YtdkepckkihclgaaGreatDoorW.PrintLast Go.Proofs.YtdkepckkihclgaaGreatDoorW.PrintMore
set_option linter.unusedVariables false
set_option linter.unusedSimpArgs false
mutual
def cnt : S24 → Nat
 | ⟨_, _, _, _, _, _, _, l⟩ => cntS l + 1
def cntS : List S24 → Nat
 | [] => 0
 | y :: l => cnt y + cntS l
end
mutual
def dep : S24 → Nat
 | ⟨_, _, _, _, _, _, _, l⟩ => depS l + 1
def depS : List S24 → Nat
 | [] => 0
 | y :: l => max (dep y) (depS l)
end
mutual
def okS : S24 → Bool
 | ⟨_, t, _, _, _, _, d, l⟩ => decide (t.size ≤ 2000) && (decide (d.size ≤ 2000) && okL l)
def okL : List S24 → Bool
 | [] => true
 | y :: l => okS y && okL l
end
theorem cnt_eq (x : S24) : cnt x = cntS x.f7 + 1 := by cases x; rw [cnt]
theorem dep_eq (x : S24) : dep x = depS x.f7 + 1 := by cases x; rw [dep]
theorem okS_eq (x : S24) : okS x = (decide (x.f1.size ≤ 2000) && (decide (x.f6.size ≤ 2000) && okL x.f7)) := by cases x; rw [okS]
theorem S24.ind {P : S24 → Prop} (h : ∀ x, (∀ y, y ∈ x.f7 → P y) → P x) (x : S24) : P x := h x (fun y hy => S24.ind h y)
 termination_by SizeOf.sizeOf x
 decreasing_by
  have h1 := List.sizeOf_lt_of_mem hy
  have h2 : SizeOf.sizeOf x.f7 < SizeOf.sizeOf x := by
   cases x
   simp only [S24.mk.sizeOf_spec]
   omega
  omega
theorem rd_at (l : List S24) (n : Nat) (h : n < l.length) : rd_T24 l (n : Int) = l[n] := by
 unfold rd_T24
 rw [Int.toNat_natCast, List.getD_eq_getElem?_getD, List.getElem?_eq_getElem h]
 rfl
theorem len_cnt : ∀ l : List S24, l.length ≤ cntS l := by
 intro l
 induction l with
 | nil => simp [cntS]
 | cons y l ih => have := cnt_eq y; simp only [cntS, List.length_cons]; omega
theorem cnt_mem : ∀ {l : List S24} {y : S24}, y ∈ l → cnt y ≤ cntS l := by
 intro l
 induction l with
 | nil => intro y h; cases h
 | cons z l ih =>
  intro y h
  simp only [cntS]
  rcases List.mem_cons.1 h with rfl | h
  ·omega
  ·have := ih h; omega
theorem ok_mem : ∀ {l : List S24}, okL l = true → ∀ y ∈ l, okS y = true := by
 intro l
 induction l with
 | nil => intro _ y h; cases h
 | cons z l ih =>
  intro h y hy
  rw [okL, Bool.and_eq_true] at h
  rcases List.mem_cons.1 hy with rfl | hy
  ·exact h.1
  ·exact ih h.2 y hy
theorem size_node (x : S24) : ∀ a d : Int, 0 ≤ a → a ≤ 400 → ∃ r, Ev (fun k => glossarylaw07_size.f k x.f0 x.f1 x.f2 x.f3 x.f4 x.f5 x.f6 x.f7 a d) r ∧ a < r ∧ (r ≤ 400 → r = a + cnt x ∧ okS x = true) := by
 refine S24.ind (P := fun x => ∀ a d : Int, 0 ≤ a → a ≤ 400 → ∃ r, Ev (fun k => glossarylaw07_size.f k x.f0 x.f1 x.f2 x.f3 x.f4 x.f5 x.f6 x.f7 a d) r ∧ a < r ∧ (r ≤ 400 → r = a + cnt x ∧ okS x = true)) ?_ x
 intro x ih a d h0 h4
 have loop : ∀ (m n : Nat) (v : Int), n + m = x.f7.length → (n : Int) < v → ∃ r, Ev (fun k => glossarylaw07_size.l0 k v d x.f7 (x.f7.length : Int) (n : Int)) r ∧ v ≤ r ∧ (r ≤ 400 → r = v + cntS (x.f7.drop n) ∧ okL (x.f7.drop n) = true) := by
  intro m
  induction m with
  | zero =>
   intro n v hn hv
   rw [List.drop_eq_nil_of_le (by omega)]
   refine ⟨v, Ev.suc fun k => ?_, by omega, fun _ => ⟨by simp [cntS], rfl⟩⟩
   simp only [glossarylaw07_size.l0]
   rw [if_neg (by omega)]
  | succ m ihm =>
   intro n v hn hv
   have hlt : n < x.f7.length := by omega
   by_cases h : v > 400
   ·refine ⟨v, Ev.suc fun k => ?_, by omega, fun e => by omega⟩
    simp only [glossarylaw07_size.l0]
    rw [if_pos (by omega), if_pos (by omega), if_pos (by omega), if_pos h]
   ·obtain ⟨r1, e1, l1, q1⟩ := ih x.f7[n] (List.getElem_mem hlt) v (wrap64 (d + 1)) (by omega) (by omega)
    obtain ⟨r, e2, l2, q2⟩ := ihm (n + 1) r1 (by omega) (by omega)
    refine ⟨r, Ev.step (f := fun k => (glossarylaw07_size.f k x.f7[n].f0 x.f7[n].f1 x.f7[n].f2 x.f7[n].f3 x.f7[n].f4 x.f7[n].f5 x.f7[n].f6 x.f7[n].f7 v (wrap64 (d + 1))).bind fun t => glossarylaw07_size.l0 k t d x.f7 (x.f7.length : Int) ((n + 1 : Nat) : Int)) (fun k => ?_) (Ev.bind e1 e2), by omega, fun hr => ?_⟩
    ·simp only [glossarylaw07_size.l0]
     rw [if_pos (by omega), if_pos (by omega), if_pos (by omega), if_neg h, rd_at _ n hlt, w1 n (by omega)]
    ·obtain ⟨c2, o2⟩ := q2 hr
     obtain ⟨c1, o1⟩ := q1 (by omega)
     rw [List.drop_eq_getElem_cons hlt]
     refine ⟨?_, ?_⟩
     ·simp only [cntS]; omega
     ·rw [okL, o1, o2]; rfl
 have hw : wrap64 (a + 1) = a + 1 := by unfold wrap64; omega
 have big : Ev (fun k => glossarylaw07_size.j0 k (a + 1) d true x.f0 x.f1 x.f2 x.f3 x.f4 x.f5 x.f6 x.f7) 1000 := Ev.suc fun k => by simp only [glossarylaw07_size.j0]; rfl
 by_cases h1 : d > 80
 ·refine ⟨1000, Ev.step (fun k => ?_) big, by omega, fun e => by omega⟩
  simp only [glossarylaw07_size.f]
  rw [if_pos h1, hw]
 ·by_cases h2 : (x.f1.size : Int) > 2000
  ·refine ⟨1000, Ev.step (fun k => ?_) big, by omega, fun e => by omega⟩
   simp only [glossarylaw07_size.f]
   rw [if_neg h1, if_pos h2, hw]
  ·by_cases h3 : (x.f6.size : Int) > 2000
   ·refine ⟨1000, Ev.step (fun k => ?_) big, by omega, fun e => by omega⟩
    simp only [glossarylaw07_size.f]
    rw [if_neg h1, if_neg h2, hw, decide_eq_true h3]
   ·obtain ⟨r, e, l, q⟩ := loop x.f7.length 0 (a + 1) (Nat.zero_add _) (by omega)
    refine ⟨r, Ev.step (f := fun k => glossarylaw07_size.j0 k (a + 1) d false x.f0 x.f1 x.f2 x.f3 x.f4 x.f5 x.f6 x.f7) (fun k => ?_) (Ev.step (fun k => ?_) e), by omega, fun hr => ?_⟩
    ·simp only [glossarylaw07_size.f]
     rw [if_neg h1, if_neg h2, hw, decide_eq_false h3]
    ·simp only [glossarylaw07_size.j0, Bool.false_eq_true, if_false]
     rfl
    ·obtain ⟨c, o⟩ := q hr
     rw [List.drop_zero] at c o
     refine ⟨by rw [cnt_eq]; omega, ?_⟩
     rw [okS_eq, o, decide_eq_true (by omega : x.f1.size ≤ 2000), decide_eq_true (by omega : x.f6.size ≤ 2000)]
     rfl
theorem E_few (x : S24) : ∃ b, Ev (fun k => glossarylaw07_Few.f k x.f0 x.f1 x.f2 x.f3 x.f4 x.f5 x.f6 x.f7) b ∧ (b = true → cnt x ≤ 400 ∧ okS x = true) := by
 obtain ⟨r, h1, h2, h3⟩ := size_node x 0 0 (by decide) (by decide)
 refine ⟨decide (r ≤ 400), Ev.bind (f := fun _ t => some (decide (t ≤ 400))) h1 (Ev.now _), fun h => ?_⟩
 obtain ⟨c, o⟩ := h3 (of_decide_eq_true h)
 have := of_decide_eq_true h
 exact ⟨by omega, o⟩
theorem cnt_prog (x : S24) : ∀ a : Int, 0 ≤ a → a + cnt x ≤ 20000 → Ev (fun k => cntF k x.f7 a) (a + cnt x) := by
 refine S24.ind (P := fun x => ∀ a : Int, 0 ≤ a → a + cnt x ≤ 20000 → Ev (fun k => cntF k x.f7 a) (a + cnt x)) ?_ x
 intro x ih a h0 hx
 have hc := cnt_eq x
 have loop : ∀ (m n : Nat) (v : Int), n + m = x.f7.length → (n : Int) < v → v + cntS (x.f7.drop n) ≤ 20000 → Ev (fun k => cntL k x.f7 (n : Int) v) (v + cntS (x.f7.drop n)) := by
  intro m
  induction m with
  | zero =>
   intro n v hn hv hb
   rw [List.drop_eq_nil_of_le (by omega)]
   refine Ev.suc fun k => ?_
   simp only [cntL]
   rw [if_neg (by omega)]
   simp [cntS]
  | succ m ihm =>
   intro n v hn hv hb
   have hlt : n < x.f7.length := by omega
   rw [List.drop_eq_getElem_cons hlt] at hb ⊢
   simp only [cntS] at hb ⊢
   have hp := cnt_eq x.f7[n]
   refine Ev.step (f := fun k => (cntF k x.f7[n].f7 v).bind fun t => if t > 20000 then some t else cntL k x.f7 ((n + 1 : Nat) : Int) t) (fun k => ?_) (Ev.bind (ih _ (List.getElem_mem hlt) v (by omega) (by omega)) ?_)
   ·simp only [cntL]
    rw [if_pos (by omega), if_pos (by omega), rd_at _ n hlt, w1 n (by omega)]
   ·have := ihm (n + 1) (v + cnt x.f7[n]) (by omega) (by omega) (by omega)
    simp only [show ¬ (v + (cnt x.f7[n] : Int) > 20000) by omega, if_false]
    rw [show v + ((cnt x.f7[n] + cntS (x.f7.drop (n + 1)) : Nat) : Int) = v + (cnt x.f7[n] : Int) + (cntS (x.f7.drop (n + 1)) : Int) by omega]
    exact this
 have hw : wrap64 (a + 1) = a + 1 := by unfold wrap64; omega
 refine Ev.step (f := fun k => cntL k x.f7 0 (a + 1)) (fun k => ?_) ?_
 ·simp only [cntF]
  rw [hw, if_neg (by omega)]
 ·have := loop x.f7.length 0 (a + 1) (Nat.zero_add _) (by omega) (by rw [List.drop_zero]; omega)
  rw [List.drop_zero] at this
  rw [show a + (cnt x : Int) = a + 1 + (cntS x.f7 : Int) by omega]
  exact this
theorem cnt_ref (x : S24) : ∀ a : Int, 0 ≤ a → a + cnt x ≤ 20000 → Ev (fun k => glossaryref07_count.f k x.f0 x.f1 x.f2 x.f3 x.f4 x.f5 x.f6 x.f7 a) (a + cnt x) := by
 refine S24.ind (P := fun x => ∀ a : Int, 0 ≤ a → a + cnt x ≤ 20000 → Ev (fun k => glossaryref07_count.f k x.f0 x.f1 x.f2 x.f3 x.f4 x.f5 x.f6 x.f7 a) (a + cnt x)) ?_ x
 intro x ih a h0 hx
 have hc := cnt_eq x
 have loop : ∀ (m n : Nat) (v : Int), n + m = x.f7.length → (n : Int) < v → v + cntS (x.f7.drop n) ≤ 20000 → Ev (fun k => glossaryref07_count.l0 k v x.f7 (x.f7.length : Int) (n : Int)) (v + cntS (x.f7.drop n)) := by
  intro m
  induction m with
  | zero =>
   intro n v hn hv hb
   rw [List.drop_eq_nil_of_le (by omega)]
   refine Ev.suc fun k => ?_
   simp only [glossaryref07_count.l0]
   rw [if_neg (by omega)]
   simp [cntS]
  | succ m ihm =>
   intro n v hn hv hb
   have hlt : n < x.f7.length := by omega
   rw [List.drop_eq_getElem_cons hlt] at hb ⊢
   simp only [cntS] at hb ⊢
   have hp := cnt_eq x.f7[n]
   refine Ev.step (f := fun k => (glossaryref07_count.f k x.f7[n].f0 x.f7[n].f1 x.f7[n].f2 x.f7[n].f3 x.f7[n].f4 x.f7[n].f5 x.f7[n].f6 x.f7[n].f7 v).bind fun t => if t > 20000 then some 30000 else glossaryref07_count.l0 k t x.f7 (x.f7.length : Int) ((n + 1 : Nat) : Int)) (fun k => ?_) (Ev.bind (ih _ (List.getElem_mem hlt) v (by omega) (by omega)) ?_)
   ·simp only [glossaryref07_count.l0]
    rw [if_pos (by omega), if_pos (by omega), if_pos (by omega), rd_at _ n hlt, w1 n (by omega)]
   ·have := ihm (n + 1) (v + cnt x.f7[n]) (by omega) (by omega) (by omega)
    simp only [show ¬ (v + (cnt x.f7[n] : Int) > 20000) by omega, if_false]
    rw [show v + ((cnt x.f7[n] + cntS (x.f7.drop (n + 1)) : Nat) : Int) = v + (cnt x.f7[n] : Int) + (cntS (x.f7.drop (n + 1)) : Int) by omega]
    exact this
 have hw : wrap64 (a + 1) = a + 1 := by unfold wrap64; omega
 refine Ev.step (f := fun k => glossaryref07_count.l0 k (a + 1) x.f7 (x.f7.length : Int) 0) (fun k => ?_) ?_
 ·simp only [glossaryref07_count.f]
  rw [hw, if_neg (by omega)]
 ·have := loop x.f7.length 0 (a + 1) (Nat.zero_add _) (by omega) (by rw [List.drop_zero]; omega)
  rw [List.drop_zero] at this
  rw [show a + (cnt x : Int) = a + 1 + (cntS x.f7 : Int) by omega]
  exact this
def dpOk (T r : Int) : Prop := (T ≤ 64 → r = T) ∧ (64 < T → 64 < r)
theorem dp_prog (x : S24) : cnt x ≤ 20000 → ∀ a : Int, 0 ≤ a → a ≤ 65 → ∃ r, Ev (fun k => dpF k x.f7 a) r ∧ dpOk (a + depS x.f7) r := by
 refine S24.ind (P := fun x => cnt x ≤ 20000 → ∀ a : Int, 0 ≤ a → a ≤ 65 → ∃ r, Ev (fun k => dpF k x.f7 a) r ∧ dpOk (a + depS x.f7) r) ?_ x
 intro x ih hx a h0 h65
 have hl := len_cnt x.f7
 have hc := cnt_eq x
 have loop : ∀ (m n : Nat) (d : Int), n + m = x.f7.length → a ≤ d → ∃ r, Ev (fun k => dpL k x.f7 a (n : Int) d) r ∧ dpOk (max d (a + depS (x.f7.drop n))) r := by
  intro m
  induction m with
  | zero =>
   intro n d hn hd
   rw [List.drop_eq_nil_of_le (by omega)]
   refine ⟨d, Ev.suc fun k => ?_, ?_⟩
   ·simp only [dpL]
    rw [if_neg (by omega)]
   ·simp only [depS, dpOk]; omega
  | succ m ihm =>
   intro n d hn hd
   have hlt : n < x.f7.length := by omega
   by_cases h : d > 64
   ·refine ⟨d, Ev.suc fun k => ?_, by simp only [dpOk]; omega⟩
    simp only [dpL]
    rw [if_pos (by omega), if_pos (by omega), if_pos h]
   ·have hm := cnt_mem (List.getElem_mem hlt)
    have hw : wrap64 (a + 1) = a + 1 := by unfold wrap64; omega
    obtain ⟨r1, e1, q1⟩ := ih _ (List.getElem_mem hlt) (by omega) (a + 1) (by omega) (by omega)
    obtain ⟨r, e2, q2⟩ := ihm (n + 1) (if d < r1 then r1 else d) (by omega) (by split <;> omega)
    refine ⟨r, Ev.step (f := fun k => (dpF k x.f7[n].f7 (a + 1)).bind fun t => dpL k x.f7 a ((n + 1 : Nat) : Int) (if d < t then t else d)) (fun k => ?_) (Ev.bind e1 e2), ?_⟩
    ·simp only [dpL]
     rw [if_pos (by omega), if_pos (by omega), if_neg h, rd_at _ n hlt, w1 n (by omega), hw]
    ·rw [List.drop_eq_getElem_cons hlt]
     have hde := dep_eq x.f7[n]
     simp only [depS, dpOk] at q1 q2 ⊢
     split at q2 <;> omega
 obtain ⟨r, e, q⟩ := loop x.f7.length 0 a (Nat.zero_add _) (by omega)
 refine ⟨r, Ev.step (fun k => by simp only [dpF]; rfl) e, ?_⟩
 rw [List.drop_zero] at q
 simp only [dpOk] at q ⊢
 omega
theorem dp_ref (x : S24) : cnt x ≤ 20000 → ∀ a : Int, 0 ≤ a → a ≤ 65 → ∃ r, Ev (fun k => glossaryref07_deep.f k x.f0 x.f1 x.f2 x.f3 x.f4 x.f5 x.f6 x.f7 a) r ∧ dpOk (a + depS x.f7) r := by
 refine S24.ind (P := fun x => cnt x ≤ 20000 → ∀ a : Int, 0 ≤ a → a ≤ 65 → ∃ r, Ev (fun k => glossaryref07_deep.f k x.f0 x.f1 x.f2 x.f3 x.f4 x.f5 x.f6 x.f7 a) r ∧ dpOk (a + depS x.f7) r) ?_ x
 intro x ih hx a h0 h65
 have hl := len_cnt x.f7
 have hc := cnt_eq x
 by_cases h64 : a > 64
 ·refine ⟨a, Ev.suc fun k => ?_, by simp only [dpOk]; omega⟩
  simp only [glossaryref07_deep.f]
  rw [if_pos h64]
 have loop : ∀ (m n : Nat) (d : Int), n + m = x.f7.length → a ≤ d → d ≤ 64 → ∃ r, Ev (fun k => glossaryref07_deep.l0 k a d x.f7 (x.f7.length : Int) (n : Int)) r ∧ dpOk (max d (a + depS (x.f7.drop n))) r := by
  intro m
  induction m with
  | zero =>
   intro n d hn hd hd2
   rw [List.drop_eq_nil_of_le (by omega)]
   refine ⟨d, Ev.suc fun k => ?_, ?_⟩
   ·simp only [glossaryref07_deep.l0]
    rw [if_neg (by omega)]
   ·simp only [depS, dpOk]; omega
  | succ m ihm =>
   intro n d hn hd hd2
   have hlt : n < x.f7.length := by omega
   have hm := cnt_mem (List.getElem_mem hlt)
   have hw : wrap64 (a + 1) = a + 1 := by unfold wrap64; omega
   obtain ⟨r1, e1, q1⟩ := ih _ (List.getElem_mem hlt) (by omega) (a + 1) (by omega) (by omega)
   have hde := dep_eq x.f7[n]
   have st : ∀ k, glossaryref07_deep.l0 (k + 1) a d x.f7 (x.f7.length : Int) (n : Int) = (glossaryref07_deep.f k x.f7[n].f0 x.f7[n].f1 x.f7[n].f2 x.f7[n].f3 x.f7[n].f4 x.f7[n].f5 x.f7[n].f6 x.f7[n].f7 (a + 1)).bind fun t => if mx d t > 64 then some (mx d t) else glossaryref07_deep.l0 k a (mx d t) x.f7 (x.f7.length : Int) ((n + 1 : Nat) : Int) := by
    intro k
    simp only [glossaryref07_deep.l0]
    rw [if_pos (by omega), if_pos (by omega), if_pos (by omega), rd_at _ n hlt, w1 n (by omega), hw]
   have hmx : mx d r1 = max d r1 := by unfold mx; split <;> omega
   by_cases h : mx d r1 > 64
   ·refine ⟨mx d r1, Ev.step st (Ev.bind e1 (Ev.all fun k => by rw [if_pos h])), ?_⟩
    rw [List.drop_eq_getElem_cons hlt]
    simp only [depS, dpOk] at q1 ⊢
    omega
   ·obtain ⟨r, e2, q2⟩ := ihm (n + 1) (mx d r1) (by omega) (by omega) (by omega)
    refine ⟨r, Ev.step st (Ev.bind e1 (Ev.congr (fun k => by rw [if_neg h]) e2)), ?_⟩
    rw [List.drop_eq_getElem_cons hlt]
    simp only [depS, dpOk] at q1 q2 ⊢
    omega
 obtain ⟨r, e, q⟩ := loop x.f7.length 0 a (Nat.zero_add _) (by omega) (by omega)
 refine ⟨r, Ev.step (fun k => by simp only [glossaryref07_deep.f]; rw [if_neg h64]; rfl) e, ?_⟩
 rw [List.drop_zero] at q
 simp only [dpOk] at q ⊢
 omega
end Go.Proofs.YtdkepckkihclgaaGreatDoor.PNodeChecks

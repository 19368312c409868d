/- The text of a fleet: a letter for each cell, a stroke between rows. -/
import Derived.Test.YtankgbfddgpfmaaGCells
import Derived.Test.YtankgbfddgpfmaaGAnswers
import Derived.Test.YtankgbfddgpfmaaGJoin
import Derived.Test.YtankgbfddgpfmaaGJoin
import Derived.Test.YtankgbfddgpfmaaPAllx24
import Derived.Test.YtankgbfddgpfmaaPAllx25
namespace Go.Proofs.Ytankgbfddgpfmaa.PAll
open Go.RowKit Go.Proofs.YtankgbfddgpfmaaW.PrintWords Go.Proofs.YtankgbfddgpfmaaW.PrintLast
set_option linter.unusedVariables false

theorem apart {x y c : Int} (hx : Cs x) (hy : Cs y) (h : Go.bits .and .i64 x y = 0) (h0 : 0 ≤ c) (h1 : c ≤ 24) : ¬ (has x c = true ∧ has y c = true) := by
  obtain ⟨a, rfl⟩ := Int.eq_ofNat_of_zero_le hx.1
  obtain ⟨b, rfl⟩ := Int.eq_ofNat_of_zero_le hy.1
  obtain ⟨n, rfl⟩ := Int.eq_ofNat_of_zero_le h0
  have ha : a < 33554432 := by have := hx.2; omega
  have hb : b < 33554432 := by have := hy.2; omega
  rw [and_nat a b ha hb] at h
  have h' : a &&& b = 0 := by omega
  rw [has_nat a n ha (by omega), has_nat b n hb (by omega)]
  rintro ⟨e1, e2⟩
  have := congrArg (fun z => Nat.testBit z n) h'
  simp only [Nat.testBit_and, e1, e2, Nat.zero_testBit] at this
  cases this

/-- The reference's letter for a cell: the last ship that has it. -/
def lastCh (c : Int) (cur : Int) (i : Int) : List Int → Int
  | [] => cur
  | y :: t => lastCh c (if has y c = true then 97 + i else cur) (i + 1) t
/-- The first ship that has a cell, -1 if none has. -/
def firstIx (c : Int) (i : Int) : List Int → Int
  | [] => -1
  | y :: t => if has y c = true then i else firstIx c (i + 1) t
def letter (f : List Int) (c : Int) : Int := lastCh c 46 0 f
theorem letters (W H : Int) (l f : List Int) (hs : IsSeaP W H l) (hf : IsFleetP W H l f) (c : Int) (h0 : 0 ≤ c) (h1 : c ≤ 24) :
    0 ≤ firstIx c 0 f + 1 ∧ firstIx c 0 f + 1 < 4 ∧ bt (⟨#[46, 97, 98, 99]⟩ : ByteArray) (firstIx c 0 f + 1) = letter f c := by
  have hn := hf.n
  have hn3 := hs.n
  have hcs := hf.cs hs
  have hh : ∀ j, j < f.length → hits (f.take j) (rd f (j : Int)) = false := fun j hj => (hf.s j hj).2
  match f, hn, hcs, hh with
  | [], hn, _, _ => simp only [List.length_nil] at hn; omega
  | [a], _, _, _ =>
    simp only [firstIx, letter, lastCh]
    cases has a c <;> decide
  | [a, b], _, hcs, hh =>
    have hab := hh 1 (by simp)
    simp [hits, rd] at hab
    have := apart (x := a) (y := b) (c := c) ⟨by have := hcs a (by simp); omega, (hcs a (by simp)).2⟩ ⟨by have := hcs b (by simp); omega, (hcs b (by simp)).2⟩ hab h0 h1
    simp only [firstIx, letter, lastCh]
    cases ha : has a c <;> cases hb : has b c <;> rw [ha, hb] at this <;> first | decide | exact absurd ⟨rfl, rfl⟩ this
  | [a, b, d], _, hcs, hh =>
    have hab := hh 1 (by simp)
    simp [hits, rd] at hab
    have hcd := hh 2 (by simp)
    simp [hits, rd] at hcd
    have ca : Cs a := ⟨by have := hcs a (by simp); omega, (hcs a (by simp)).2⟩
    have cb : Cs b := ⟨by have := hcs b (by simp); omega, (hcs b (by simp)).2⟩
    have cd : Cs d := ⟨by have := hcs d (by simp); omega, (hcs d (by simp)).2⟩
    have t1 := apart (c := c) ca cb hab h0 h1
    have t2 := apart (c := c) ca cd hcd.1 h0 h1
    have t3 := apart (c := c) cb cd hcd.2 h0 h1
    simp only [firstIx, letter, lastCh]
    cases ha : has a c <;> cases hb : has b c <;> cases hd : has d c <;> rw [ha, hb] at t1 <;> rw [ha, hd] at t2 <;> rw [hb, hd] at t3 <;> first | decide | exact absurd ⟨rfl, rfl⟩ t1 | exact absurd ⟨rfl, rfl⟩ t2 | exact absurd ⟨rfl, rfl⟩ t3
  | a :: b :: d :: e :: t, hn, _, _ => simp only [List.length_cons] at hn; omega
def chB (f : List Int) (c : Nat) : UInt8 := UInt8.ofNat (letter f (c : Int)).toNat
def sepB (w c : Nat) : List UInt8 := if 0 < c ∧ c % w = 0 then [47] else []
def txt (g : Nat → UInt8) (w n : Nat) : List UInt8 := (List.range n).flatMap fun c => sepB w c ++ [g c]
theorem txt_succ (g : Nat → UInt8) (w n : Nat) : txt g w (n + 1) = txt g w n ++ (sepB w n ++ [g n]) := by
  unfold txt; rw [List.range_succ, List.flatMap_append]; simp
theorem txt_len (g : Nat → UInt8) (w : Nat) : ∀ n, (txt g w n).length ≤ 2 * n := by
  intro n
  induction n with
  | zero => simp [txt]
  | succ n ih =>
    rw [txt_succ, List.length_append, List.length_append]
    have : (sepB w n).length ≤ 1 := by unfold sepB; split <;> simp
    simp only [List.length_cons, List.length_nil]; omega
def rowB (g : Nat → UInt8) (w y : Nat) : List UInt8 := (List.range w).map fun x => g (y * w + x)
theorem five' {x : Nat} (h : 1 ≤ x ∧ x ≤ 5) : x = 1 ∨ x = 2 ∨ x = 3 ∨ x = 4 ∨ x = 5 := by omega
theorem join_txt (g : Nat → UInt8) (w h : Nat) (hw : 1 ≤ w ∧ w ≤ 5) (hh : 1 ≤ h ∧ h ≤ 5) : Lib.join ((List.range h).map (rowB g w)) [47] = txt g w (w * h) := by
  rcases five' hw with rfl | rfl | rfl | rfl | rfl <;> rcases five' hh with rfl | rfl | rfl | rfl | rfl <;> rfl

theorem strs (v : Int) : (strOfNums [v]).data = #[UInt8.ofNat v.toNat] := rfl
theorem spec_ship (W H : Int) (l f : List Int) (x5 : ByteArray) (c : Nat) (r : ByteArray) (hc : c ≤ 24) (hf : f.length ≤ 3) (hcs : ∀ y ∈ f, Cs y) (h5 : x5.size ≤ 1000) :
    ∀ (d i : Nat) (v : Int), i + d = f.length → Ev (fun k => spec_l09Text.l0 k f (x5 ++ strOfNums [lastCh (c : Int) v (i : Int) (f.drop i)]) ((c + 1 : Nat) : Int) W H l) r → Ev (fun k => spec_l09Text.l1 k f x5 (c : Int) (strOfNums [v]) (i : Int) W H l) r := by
  have h4c : wrap64 ((c : Int) + 1) = ((c + 1 : Nat) : Int) := by rw [w64 (by omega) (by omega)]; omega
  have hu : IntKind.u64.wrap (c : Int) = (c : Int) := u64_small _ (by omega) (by omega)
  have hc0 : (0 : Int) ≤ (c : Int) := by omega
  intro d
  induction d with
  | zero =>
    intro i v hi h
    have h1 : ¬ ((i : Int) < (f.length : Int)) := by omega
    rw [List.drop_of_length_le (by omega)] at h
    have hsz : x5.size + (strOfNums [v]).size ≤ 9223372036854775807 := by
      have : (strOfNums [v]).size = 1 := rfl
      omega
    refine Ev.succ ?_
    simp only [spec_l09Text.l1, if_neg h1, if_pos hsz, h4c]
    exact h
  | succ d ih =>
    intro i v hi h
    have h1 : (i : Int) < (f.length : Int) := by omega
    have h2 : (0 : Int) ≤ (i : Int) := by omega
    have h4 : wrap64 ((i : Int) + 1) = ((i + 1 : Nat) : Int) := by rw [w64 (by omega) (by omega)]; omega
    have hd : f.drop i = f[i] :: f.drop (i + 1) := List.drop_eq_getElem_cons (by omega)
    rw [hd] at h
    have h97 : (wrap64 (97 + (i : Int))) % 256 = 97 + (i : Int) := by rw [w64 (by omega) (by omega)]; omega
    have hi1 : ((i + 1 : Nat) : Int) = (i : Int) + 1 := by omega
    refine Ev.succ ?_
    simp only [spec_l09Text.l1, if_pos h1, if_pos h2, hu, if_pos hc0, rd_nat f i (by omega), h4, h97]
    simp only [lastCh, ← hi1] at h
    rcases has_cases f[i] (c : Int) (hcs _ (List.getElem_mem _)) hc0 (by omega) with ⟨e1, e2⟩ | ⟨e1, e2⟩
    · simp only [if_pos e2]
      rw [e1, if_pos rfl] at h
      exact ih (i + 1) _ (by omega) h
    · have e3 : ¬ (Go.bits .and .i64 (shr .i64 f[i] (c : Int)) 1 = 1) := by rw [e2]; decide
      simp only [if_neg e3]
      rw [e1, if_neg (by decide)] at h
      exact ih (i + 1) _ (by omega) h

theorem ev_spec_text (w h : Nat) (l f : List Int) (hw : 1 ≤ w ∧ w ≤ 5) (hh : 1 ≤ h ∧ h ≤ 5) (hf : f.length ≤ 3) (hcs : ∀ y ∈ f, Cs y) :
    Ev (fun k => spec_l09Text.f k (w : Int) (h : Int) l f) ⟨(txt (chB f) w (w * h)).toArray⟩ := by
  unfold spec_l09Text.f
  have hle : w * h ≤ 25 := by
    rcases five' hw with rfl | rfl | rfl | rfl | rfl <;> omega
  have hwh : wrap64 ((w : Int) * (h : Int)) = ((w * h : Nat) : Int) := by
    rw [← Int.natCast_mul]; exact w64 (by omega) (by omega)
  suffices g : ∀ (d i : Nat), i + d = w * h → Ev (fun k => spec_l09Text.l0 k f ⟨(txt (chB f) w i).toArray⟩ (i : Int) (w : Int) (h : Int) l) ⟨(txt (chB f) w (w * h)).toArray⟩ from g (w * h) 0 (by omega)
  intro d
  induction d with
  | zero =>
    intro i hi
    have h1 : ¬ ((i : Int) < ((w * h : Nat) : Int)) := by omega
    refine Ev.succ ?_
    simp only [spec_l09Text.l0, hwh, if_neg h1]
    exact Ev.cast (Ev.now _) (by rw [show i = w * h by omega])
  | succ d ih =>
    intro i hi
    have h1 : (i : Int) < ((w * h : Nat) : Int) := by omega
    have hlen := txt_len (chB f) w i
    have step : ∀ (T : ByteArray), T.data.toList = txt (chB f) w i ++ sepB w i → Ev (fun k => spec_l09Text.j2 k f T (i : Int) (w : Int) (h : Int) l) ⟨(txt (chB f) w (w * h)).toArray⟩ := by
      intro T hT
      have hTs : T.size ≤ 1000 := by
        have : T.size = T.data.toList.length := (Array.length_toList (xs := T.data)).symm
        rw [this, hT, List.length_append]
        have : (sepB w i).length ≤ 1 := by unfold sepB; split <;> simp
        omega
      refine Ev.succ ?_
      simp only [spec_l09Text.j2]
      refine spec_ship (w : Int) (h : Int) l f T i _ (by omega) hf hcs hTs f.length 0 46 (by omega) ?_
      rw [List.drop_zero]
      have : T ++ strOfNums [lastCh (i : Int) 46 ((0 : Nat) : Int) f] = ⟨(txt (chB f) w (i + 1)).toArray⟩ := by
        apply ByteArray.ext
        rw [ByteArray.data_append, strs]
        apply Array.toList_inj.1
        rw [Array.toList_append, hT, txt_succ, List.append_assoc]
        rfl
      rw [this]
      exact ih (i + 1) (by omega)
    refine Ev.succ ?_
    simp only [spec_l09Text.l0, hwh, if_pos h1]
    by_cases hi0 : 0 < i
    · have h5 : ((i : Nat) : Int) > 0 := by omega
      have h6 : ¬ ((w : Int) = 0) := by omega
      have h7 : Int.tmod (i : Int) (w : Int) = ((i % w : Nat) : Int) := (Int.ofNat_tmod i w).symm
      simp only [if_pos h5, if_neg h6, h7]
      refine Ev.succ ?_
      by_cases hm : i % w = 0
      · have hb : (((i % w : Nat) : Int) == 0) = true := by rw [hm]; rfl
        have hsz : (⟨(txt (chB f) w i).toArray⟩ : ByteArray).size + 1 ≤ 9223372036854775807 := by
          have : (⟨(txt (chB f) w i).toArray⟩ : ByteArray).size = (txt (chB f) w i).length := List.size_toArray
          omega
        simp only [spec_l09Text.j1, hb, if_true, if_pos hsz]
        refine step _ ?_
        rw [ByteArray.data_append, Array.toList_append]
        simp [sepB, hi0, hm]
      · have hb : (((i % w : Nat) : Int) == 0) = false := by
          rw [beq_eq_false_iff_ne]; omega
        simp only [spec_l09Text.j1, hb, Bool.false_eq_true, if_false]
        refine step _ ?_
        simp [sepB, hm]
    · have h5 : ¬ (((i : Nat) : Int) > 0) := by omega
      simp only [if_neg h5]
      refine Ev.succ ?_
      simp only [spec_l09Text.j1, Bool.false_eq_true, if_false]
      refine step _ ?_
      simp [sepB, hi0]

theorem ev_indexc (f : List Int) (c : Nat) (hc : c ≤ 24) (hf : f.length ≤ 3) (hcs : ∀ y ∈ f, Cs y) : Ev (fun k => slices_IndexFunc_int64_int64_impl_FleetText_1.f k f (c : Int)) (firstIx (c : Int) 0 f) := by
  unfold slices_IndexFunc_int64_int64_impl_FleetText_1.f
  suffices h : ∀ (d i : Nat), i + d = f.length → Ev (fun k => slices_IndexFunc_int64_int64_impl_FleetText_1.l0 k f (f.length : Int) (i : Int) (c : Int)) (firstIx (c : Int) (i : Int) (f.drop i)) from by simpa using h f.length 0 (by omega)
  have hc0 : (0 : Int) ≤ (c : Int) := by omega
  intro d
  induction d with
  | zero =>
    intro i hi
    have h1 : ¬ ((i : Int) < (f.length : Int)) := by omega
    refine Ev.succ ?_
    simp only [slices_IndexFunc_int64_int64_impl_FleetText_1.l0, if_neg h1]
    exact Ev.cast (Ev.now _) (by rw [List.drop_of_length_le (by omega)]; rfl)
  | succ d ih =>
    intro i hi
    have h1 : (i : Int) < (f.length : Int) := by omega
    have h2 : (0 : Int) ≤ (i : Int) := by omega
    have h4 : wrap64 ((i : Int) + 1) = ((i + 1 : Nat) : Int) := by rw [w64 (by omega) (by omega)]; omega
    have hi1 : ((i + 1 : Nat) : Int) = (i : Int) + 1 := by omega
    have hd : f.drop i = f[i] :: f.drop (i + 1) := List.drop_eq_getElem_cons (by omega)
    have hb : (Go.bits .and .i64 (shr .i64 f[i] (c : Int)) 1 == 1) = has f[i] (c : Int) := rfl
    rw [hd]
    refine Ev.succ ?_
    simp only [slices_IndexFunc_int64_int64_impl_FleetText_1.l0, impl_FleetText_1.f, if_pos h1, if_pos h2, if_pos hc0, rd_nat f i (by omega), h4, hb, Option.bind_some]
    cases e : has f[i] (c : Int) with
    | true =>
      simp only [if_true]
      exact Ev.cast (Ev.now _) (by simp only [firstIx, e, if_true])
    | false =>
      simp only [Bool.false_eq_true, if_false]
      exact Ev.cast (ih (i + 1) (by omega)) (by simp only [firstIx, e, Bool.false_eq_true, if_false, hi1])

theorem succ_small {z : Int} (h0 : 0 ≤ z + 1) (h1 : z + 1 < 4) : wrap64 (z + 1) = z + 1 := w64 (by omega) (by omega)
theorem cellno (y w x : Nat) (h : y * w + x ≤ 24) : wrap64 ((wrap64 ((y : Int) * (w : Int))) + (x : Int)) = ((y * w + x : Nat) : Int) := by
  have e : (y : Int) * (w : Int) = ((y * w : Nat) : Int) := (Int.natCast_mul y w).symm
  rw [e]
  clear e
  generalize y * w = n at h ⊢
  have h1 : wrap64 (n : Int) = (n : Int) := w64 (by omega) (by omega)
  rw [h1]
  have h2 : wrap64 ((n : Int) + (x : Int)) = (n : Int) + (x : Int) := w64 (by omega) (by omega)
  rw [h2]; omega
theorem cellno2 (y w n x : Nat) (hn : y * w = n) (h : n + x ≤ 24) : wrap64 ((wrap64 ((y : Int) * (w : Int))) + (x : Int)) = ((n + x : Nat) : Int) := by
  subst hn; exact cellno y w x h
theorem impl_row (w h : Nat) (l f : List Int) (hs : IsSeaP (w : Int) (h : Int) l) (hf : IsFleetP (w : Int) (h : Int) l f) (hf3 : f.length ≤ 3) (hcs : ∀ y ∈ f, Cs y)
    (y n : Nat) (hn : y * w = n) (hy : y < h) (hh : h ≤ 5) (hw : w ≤ 5) (hcell : n + w ≤ 25) (rows : List ByteArray) (hr : rows.length = y) (R : ByteArray × Int) : ∀ (d x : Nat), x + d = w →
      Ev (fun k => impl_FleetText.l0 k f (rows ++ [strOfNums ((List.range w).map fun (x : Nat) => letter f ((n + x : Nat) : Int))]) (h : Int) ((y + 1 : Nat) : Int) (w : Int) (h : Int) l) R →
      Ev (fun k => impl_FleetText.l1 k f rows (y : Int) ((List.range x).map fun (x : Nat) => letter f ((n + x : Nat) : Int)) (h : Int) (y : Int) (w : Int) (x : Int) (w : Int) (h : Int) l) R := by
  have h4y : wrap64 ((y : Int) + 1) = ((y + 1 : Nat) : Int) := by rw [w64 (by omega) (by omega)]; omega
  intro d
  induction d with
  | zero =>
    intro x hx hR
    have h1 : ¬ ((x : Int) < (w : Int)) := by omega
    have h5 : rows.length < 8796093022208 := by omega
    refine Ev.succ ?_
    simp only [impl_FleetText.l1, if_neg h1, if_pos h5, h4y]
    have hxw : x = w := by omega
    rw [hxw]
    exact hR
  | succ d ih =>
    intro x hx hR
    have h1 : (x : Int) < (w : Int) := by omega
    have hx1 : x + 1 + d = w := by clear h4y; omega
    have hc : n + x ≤ 24 := by clear h4y; omega
    have h4 : wrap64 ((x : Int) + 1) = ((x + 1 : Nat) : Int) := by clear h4y; rw [w64 (by omega) (by omega)]; omega
    have hyw := cellno2 y w n x hn hc
    have hL := letters (w : Int) (h : Int) l f hs hf ((n + x : Nat) : Int) (Int.natCast_nonneg _) (Int.ofNat_le.mpr hc)
    have h6 : ((List.range x).map fun (x : Nat) => letter f ((n + x : Nat) : Int)).length < 140737488355328 := by
      rw [List.length_map, List.length_range]; clear hL hyw hR ih h4 h4y; omega
    have h7 : wrap64 (firstIx ((n + x : Nat) : Int) 0 f + 1) = firstIx ((n + x : Nat) : Int) 0 f + 1 := succ_small hL.1 hL.2.1
    refine Ev.succ ?_
    simp only [impl_FleetText.l1, if_pos h1, hyw, h4]
    refine Ev.bind (ev_indexc f (n + x) hc hf3 hcs) ?_
    simp only [h7, if_pos hL.1, if_pos hL.2.1, if_pos h6, hL.2.2]
    have hnext := ih (x + 1) hx1 hR
    rw [List.range_succ, List.map_append] at hnext
    exact hnext
theorem ev_impl_text (w h : Nat) (l f : List Int) (hs : IsSeaP (w : Int) (h : Int) l) (hf : IsFleetP (w : Int) (h : Int) l f) :
    Ev (fun k => impl_FleetText.l0 k f [] (h : Int) 0 (w : Int) (h : Int) l) (⟨(txt (chB f) w (w * h)).toArray⟩, 0) := by
  have hw : 1 ≤ w ∧ w ≤ 5 := by have := hs.w; omega
  have hh : 1 ≤ h ∧ h ≤ 5 := by have := hs.h; omega
  have hf3 : f.length ≤ 3 := by have := hf.n; have := hs.n; omega
  have hcs : ∀ y ∈ f, Cs y := fun y hy => ⟨by have := hf.cs hs y hy; omega, (hf.cs hs y hy).2⟩
  have hle : w * h ≤ 25 := by
    rcases five' hw with rfl | rfl | rfl | rfl | rfl <;> omega
  have hcell : ∀ y : Nat, y < h → y * w + w ≤ 25 := by
    intro y hy
    have h1 : (y + 1) * w ≤ h * w := Nat.mul_le_mul_right _ hy
    rw [Nat.succ_mul, Nat.mul_comm h w] at h1
    exact Nat.le_trans h1 hle
  suffices g : ∀ (d y : Nat), y + d = h → Ev (fun k => impl_FleetText.l0 k f ((List.range y).map fun (y : Nat) => strOfNums ((List.range w).map fun (x : Nat) => letter f ((y * w + x : Nat) : Int))) (h : Int) (y : Int) (w : Int) (h : Int) l) (⟨(txt (chB f) w (w * h)).toArray⟩, 0) from g h 0 (by omega)
  intro d
  induction d with
  | zero =>
    intro y hy
    have h1 : ¬ ((y : Int) < (h : Int)) := by omega
    have hj : Lib.join (((List.range y).map fun (y : Nat) => strOfNums ((List.range w).map fun (x : Nat) => letter f ((y * w + x : Nat) : Int))).map (·.data.toList)) ([47] : List UInt8) = txt (chB f) w (w * h) := by
      rw [← join_txt (chB f) w h hw hh, show y = h by omega, List.map_map]
      refine congrArg (Lib.join · [47]) (List.map_congr_left fun a _ => ?_)
      simp [strOfNums, rowB, chB, Function.comp_def]
    have hlen := txt_len (chB f) w (w * h)
    have hJ : strings_Join.f ((List.range y).map fun (y : Nat) => strOfNums ((List.range w).map fun (x : Nat) => letter f ((y * w + x : Nat) : Int))) (⟨#[47]⟩ : ByteArray) = some ⟨(txt (chB f) w (w * h)).toArray⟩ := by
      unfold strings_Join.f
      rw [if_pos ?_]
      · rw [show (⟨#[47]⟩ : ByteArray).data.toList = ([47] : List UInt8) from rfl, hj]
      · rw [show (⟨#[47]⟩ : ByteArray).data.toList = ([47] : List UInt8) from rfl, hj, List.length_map, List.length_range]
        exact ⟨by omega, by omega⟩
    refine Ev.succ ?_
    simp only [impl_FleetText.l0, if_neg h1, hJ, Option.bind_some]
    exact Ev.now _
  | succ d ih =>
    intro y hy
    have h1 : (y : Int) < (h : Int) := by omega
    refine Ev.succ ?_
    simp only [impl_FleetText.l0, if_pos h1]
    refine impl_row w h l f hs hf hf3 hcs y (y * w) rfl (by omega) hh.2 hw.2 (hcell y (by omega)) _ (by rw [List.length_map, List.length_range]) _ w 0 (Nat.zero_add w) ?_
    have hnext := ih (y + 1) (by omega)
    rw [List.range_succ, List.map_append] at hnext
    exact hnext

theorem text_agree (W H : Int) (l f : List Int) (hm : l.length ≤ 35184372088832) :
    ∃ P c, Ev (fun k => spec_FleetText.f k W H l f) (P, c) ∧ Ev (fun k => impl_FleetText.f k W H l f) (P, c) := by
  obtain ⟨c, h1, h2, h3⟩ := code_agree W H l f hm (fun _ _ _ => rfl)
  unfold spec_FleetText.f impl_FleetText.f
  by_cases hc : c = 0
  · subst hc
    obtain ⟨hs, hf⟩ := h3 rfl
    obtain ⟨w, rfl⟩ := Int.eq_ofNat_of_zero_le (a := W) (by have := hs.w; omega)
    obtain ⟨h, rfl⟩ := Int.eq_ofNat_of_zero_le (a := H) (by have := hs.h; omega)
    have hcs : ∀ y ∈ f, Cs y := fun y hy => ⟨by have := hf.cs hs y hy; omega, (hf.cs hs y hy).2⟩
    refine ⟨⟨(txt (chB f) w (w * h)).toArray⟩, 0, Ev.bind h1 ?_, Ev.bind h2 ?_⟩
    · simp only [if_true]
      exact Ev.bind (ev_spec_text w h l f (by have := hs.w; omega) (by have := hs.h; omega) (by have := hf.n; have := hs.n; omega) hcs) (Ev.now _)
    · simp only [if_true]
      exact ev_impl_text w h l f hs hf
  · refine ⟨⟨#[]⟩, c, Ev.bind h1 ?_, Ev.bind h2 ?_⟩
    · simp only [if_neg hc]; exact Ev.now _
    · simp only [if_neg hc]; exact Ev.now _
end Go.Proofs.Ytankgbfddgpfmaa.PAll

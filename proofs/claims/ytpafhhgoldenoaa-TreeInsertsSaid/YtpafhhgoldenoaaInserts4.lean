import Derived.Test.YtpafhhgoldenoaaInserts3
import Derived.Maps.AppendAt
import Derived.Lib.Hide
import Derived.WalkMore
import Derived.Maps.RangeRun
import Derived.Laws.IdiomRangeMap
/- Laws that the proof of Inserts uses. -/
section
namespace Go.Proofs.Ytpafhhgoldenoaa.P
open Go.RowKit Go.Proofs.YtpafhhgoldenoaaW.PrintWords Go.Proofs.YtpafhhgoldenoaaW.PrintLast Go.Proofs.YtpafhhgoldenoaaW.PrintMore
attribute [local go_sem] max2_int min2_int max_two min_two max_three min_three max_four min_four
set_option linter.unusedVariables false
set_option linter.unusedSimpArgs false
def formelaw10_head.f (k : Nat)  : Option (Bool) := (formelaw10_example.f).bind fun t150 => ((tree_Kids.f k t150 1).bind fun bt153 => ((tree_Path.f t150 3).bind fun bt157 => ((tree_Insert.f t150 5 1 10 0 (⟨#[]⟩ : ByteArray) 4).bind fun bt162 => ((tree_Move.f t150 2 1 0).bind fun bt166 => ((tree_Move.f t150 2 3 0).bind fun bt170 => ((tree_Move.f t150 4 3 0).bind fun bt174 => ((tree_Remove.f t150 2).bind fun bt178 => ((tree_Find.f t150 4).bind fun bt182 => (if bt153.2 = 0 then (if bt157.2 = 0 then (if bt162.2 = 0 then (if bt166.2 = 0 then (if bt170.2 = 24 then (if bt174.2 = 25 then (if bt178.2 = 0 then (if bt182.2.2 = 0 then ((formeref10_SameInts.f k bt153.1 (([2, 4] : List Int))).bind fun t188 => (if t188 = true then ((formeref10_SameInts.f k bt157.1 (([1, 2, 3] : List Int))).bind fun t192 => (if t192 = true then (if 0 < (t150.length : Int) then (if 1 < (t150.length : Int) then (if 2 < (t150.length : Int) then (if 3 < (t150.length : Int) then ((formeref10_Same.f k bt162.1 (([(⟨(rd_T24 t150 0).f0, (rd_T24 t150 0).f1, (rd_T24 t150 0).f2, (rd_T24 t150 0).f3, (rd_T24 t150 0).f4⟩ : S24), (⟨(rd_T24 t150 1).f0, (rd_T24 t150 1).f1, (rd_T24 t150 1).f2, (rd_T24 t150 1).f3, (rd_T24 t150 1).f4⟩ : S24), (⟨(rd_T24 t150 2).f0, (rd_T24 t150 2).f1, (rd_T24 t150 2).f2, (rd_T24 t150 2).f3, (rd_T24 t150 2).f4⟩ : S24), (⟨5, 1, 10, 0, (⟨#[]⟩ : ByteArray)⟩ : S24), (⟨(rd_T24 t150 3).f0, (rd_T24 t150 3).f1, (rd_T24 t150 3).f2, (rd_T24 t150 3).f3, (rd_T24 t150 3).f4⟩ : S24)] : List (S24)))).bind fun t200 => (if t200 = true then ((formeref10_Same.f k bt166.1 (([(⟨(rd_T24 t150 0).f0, (rd_T24 t150 0).f1, (rd_T24 t150 0).f2, (rd_T24 t150 0).f3, (rd_T24 t150 0).f4⟩ : S24), (⟨(rd_T24 t150 3).f0, (rd_T24 t150 3).f1, (rd_T24 t150 3).f2, (rd_T24 t150 3).f3, (rd_T24 t150 3).f4⟩ : S24), (⟨(rd_T24 t150 1).f0, (rd_T24 t150 1).f1, (rd_T24 t150 1).f2, (rd_T24 t150 1).f3, (rd_T24 t150 1).f4⟩ : S24), (⟨(rd_T24 t150 2).f0, (rd_T24 t150 2).f1, (rd_T24 t150 2).f2, (rd_T24 t150 2).f3, (rd_T24 t150 2).f4⟩ : S24)] : List (S24)))).bind fun t208 => (if t208 = true then ((formeref10_Same.f k bt178.1 (([(⟨(rd_T24 t150 0).f0, (rd_T24 t150 0).f1, (rd_T24 t150 0).f2, (rd_T24 t150 0).f3, (rd_T24 t150 0).f4⟩ : S24), (⟨(rd_T24 t150 3).f0, (rd_T24 t150 3).f1, (rd_T24 t150 3).f2, (rd_T24 t150 3).f3, (rd_T24 t150 3).f4⟩ : S24)] : List (S24)))).bind fun t214 => (if t214 = true then (if bt182.1 = 3 then (if bt182.2.1 = true then ((tree_Valid.f t150).bind fun t215 => (if t215 = true then (if 1 ≤ (t150.length : Int) then ((tree_Valid.f (t150.drop 1)).bind fun t220 => (some (!t220))) else (none)) else (none))) else (none)) else (none)) else (none))) else (none))) else (none))) else (none)) else (none)) else (none)) else (none)) else (none))) else (none))) else (none)) else (none)) else (none)) else (none)) else (none)) else (none)) else (none)) else (none))))))))))
theorem formelaw10_head.mono : ∀ k, LeO (formelaw10_head.f k ) (formelaw10_head.f (k + 1) ) := by
 intro  k
 unfold formelaw10_head.f
 repeat' first
   | (with_reducible exact formeref10_Same.mono _ _ _)
   | (with_reducible exact formeref10_SameInts.mono _ _ _)
   | (with_reducible exact tree_Kids.mono _ _ _)
   | (with_reducible exact LeO.refl _)
   | (with_reducible exact LeO.none _)
   | (with_reducible refine LeO.ite ?_ ?_)
   | (with_reducible refine LeO.bind ?_ (fun _ => ?_))
   | exact formeref10_Same.mono _ _ _
   | exact formeref10_SameInts.mono _ _ _
   | exact tree_Kids.mono _ _ _
   | exact LeO.none _
   | refine LeO.ite ?_ ?_
   | refine LeO.bind ?_ (fun _ => ?_)
def formelaw10_head.T12 : Bool × List (List Nat × List Nat) := (true, [([], []), ([0], [0]), ([1], [1]), ([1], [1]), ([2, 3, 1, 1], [1, 2, 3]), ([1, 4], [1, 4]), ([5, 4], [5]), ([6], [6]), ([6], [6]), ([7, 8, 6, 6], [6, 7, 8]), ([6, 9], [6, 9]), ([10, 9], [10]), ([11], [11]), ([11], [11]), ([13, 11], [11, 13]), ([14, 11], [11, 14]), ([11], [11]), ([16, 11], [11, 16]), ([17, 11], [11, 17]), ([11], [11]), ([19, 11], [11, 19]), ([20, 11], [11, 20]), ([11], [11]), ([11], [11]), ([23, 11], [11, 23]), ([24, 11], [11, 24]), ([15, 18, 21, 22, 25, 11], [11, 15, 18, 21, 22, 25]), ([12, 26, 11, 11], [11, 12, 26]), ([11, 27], [11, 27]), ([28, 27], [28]), ([29], [29]), ([29], [29]), ([31, 29], [29, 31]), ([32, 29], [29, 32]), ([29], [29]), ([34, 29], [29, 34]), ([35, 29], [29, 35]), ([29], [29]), ([37, 29], [29, 37]), ([38, 29], [29, 38]), ([29], [29]), ([40, 29], [29, 40]), ([41, 29], [29, 41]), ([33, 36, 39, 42, 29], [29, 33, 36, 39, 42]), ([30, 43, 29, 29], [29, 30, 43]), ([29, 44], [29, 44]), ([45, 44, 0, 1, 2, 3, 4, 5, 6, 7, 8, 9, 10, 11, 12, 13, 14, 15, 16, 17, 18, 19, 20, 21, 22, 23, 24, 25, 26, 27, 28, 29, 30, 31, 32, 33, 34, 35, 36, 37, 38, 39, 40, 41, 42, 43, 44, 45], [0, 45])])
def formelaw10_head.B12 : List Nat := [0, 1, 3, 3, 15, 31, 63, 127, 127, 511, 1023, 2047, 4095, 4095, 12287, 28671, 4095, 69631, 200703, 4095, 528383, 1576959, 4095, 4095, 8392703, 25169919, 67104767, 134217727, 268435455, 536870911, 1073741823, 1073741823, 3221225471, 7516192767, 1073741823, 18253611007, 52613349375, 1073741823, 138512695295, 413390602239, 1073741823, 1100585369599, 3299608625151, 8795019280383, 17592186044415, 35184372088831, 70368744177663]
theorem formelaw10_head.tab12 : rtab .any (opsOf Try.f9 12) = formelaw10_head.T12 := by kernel_rfl
theorem formelaw10_head.bits12 : waitsOk formelaw10_head.T12.2 formelaw10_head.B12 = true := by kernel_rfl
def formelaw10_head.T13 : Bool × List (List Nat × List Nat) := (true, [([], []), ([0], [0]), ([1], [1]), ([1], [1]), ([3, 1], [1, 3]), ([4, 1], [1, 4]), ([1], [1]), ([6, 1], [1, 6]), ([7, 1], [1, 7]), ([5, 8, 1], [1, 5, 8]), ([2, 9, 1, 1], [1, 2, 9]), ([1, 10], [1, 10]), ([11, 10], [11]), ([12], [12]), ([13, 12], [12, 13]), ([12, 14], [12, 14]), ([15, 12], [15]), ([16], [16]), ([16, 17], [16, 17]), ([18, 16], [18]), ([19], [19]), ([20, 19, 19], [19, 20]), ([19, 21], [19, 21]), ([22, 21], [22]), ([23], [23]), ([24, 23], [23, 24]), ([25, 23, 23], [23, 25]), ([26, 23], [23, 26]), ([23, 27], [23, 27]), ([28, 26, 0, 1, 2, 3, 4, 5, 6, 7, 8, 9, 10, 11, 12, 13, 14, 15, 16, 17, 18, 19, 20, 21, 22, 23, 24, 25, 26, 27, 28], [28])])
def formelaw10_head.B13 : List Nat := [0, 1, 3, 3, 11, 27, 3, 67, 195, 507, 1023, 2047, 4095, 8191, 16383, 32767, 65535, 131071, 262143, 524287, 1048575, 2097151, 4194303, 8388607, 16777215, 33554431, 67108863, 134217727, 268435455, 536870911]
theorem formelaw10_head.tab13 : rtab .any (opsOf Try.f9 13) = formelaw10_head.T13 := by kernel_rfl
theorem formelaw10_head.bits13 : waitsOk formelaw10_head.T13.2 formelaw10_head.B13 = true := by kernel_rfl
set_option maxHeartbeats 8000000 in
set_option maxRecDepth 100000 in
theorem formelaw10_head.calls (k : Nat)  (r : Bool) (w : World) (h : formelaw10_head.f k  = some r) :
  Calls Try.prog 9 #[] w fun e w' => e = .returned (.bool r) ∧ Below w.heap.size w w' := by
 have hu24 := Try.underlying24
 have HB := Aside0.mk (Below.refl w.heap.size w)
 have H : ((formelaw10_example.f).bind fun t150 => ((tree_Kids.f k t150 1).bind fun bt153 => ((tree_Path.f t150 3).bind fun bt157 => ((tree_Insert.f t150 5 1 10 0 (⟨#[]⟩ : ByteArray) 4).bind fun bt162 => ((tree_Move.f t150 2 1 0).bind fun bt166 => ((tree_Move.f t150 2 3 0).bind fun bt170 => ((tree_Move.f t150 4 3 0).bind fun bt174 => ((tree_Remove.f t150 2).bind fun bt178 => ((tree_Find.f t150 4).bind fun bt182 => (if bt153.2 = 0 then (if bt157.2 = 0 then (if bt162.2 = 0 then (if bt166.2 = 0 then (if bt170.2 = 24 then (if bt174.2 = 25 then (if bt178.2 = 0 then (if bt182.2.2 = 0 then ((formeref10_SameInts.f k bt153.1 (([2, 4] : List Int))).bind fun t188 => (if t188 = true then ((formeref10_SameInts.f k bt157.1 (([1, 2, 3] : List Int))).bind fun t192 => (if t192 = true then (if 0 < (t150.length : Int) then (if 1 < (t150.length : Int) then (if 2 < (t150.length : Int) then (if 3 < (t150.length : Int) then ((formeref10_Same.f k bt162.1 (([(⟨(rd_T24 t150 0).f0, (rd_T24 t150 0).f1, (rd_T24 t150 0).f2, (rd_T24 t150 0).f3, (rd_T24 t150 0).f4⟩ : S24), (⟨(rd_T24 t150 1).f0, (rd_T24 t150 1).f1, (rd_T24 t150 1).f2, (rd_T24 t150 1).f3, (rd_T24 t150 1).f4⟩ : S24), (⟨(rd_T24 t150 2).f0, (rd_T24 t150 2).f1, (rd_T24 t150 2).f2, (rd_T24 t150 2).f3, (rd_T24 t150 2).f4⟩ : S24), (⟨5, 1, 10, 0, (⟨#[]⟩ : ByteArray)⟩ : S24), (⟨(rd_T24 t150 3).f0, (rd_T24 t150 3).f1, (rd_T24 t150 3).f2, (rd_T24 t150 3).f3, (rd_T24 t150 3).f4⟩ : S24)] : List (S24)))).bind fun t200 => (if t200 = true then ((formeref10_Same.f k bt166.1 (([(⟨(rd_T24 t150 0).f0, (rd_T24 t150 0).f1, (rd_T24 t150 0).f2, (rd_T24 t150 0).f3, (rd_T24 t150 0).f4⟩ : S24), (⟨(rd_T24 t150 3).f0, (rd_T24 t150 3).f1, (rd_T24 t150 3).f2, (rd_T24 t150 3).f3, (rd_T24 t150 3).f4⟩ : S24), (⟨(rd_T24 t150 1).f0, (rd_T24 t150 1).f1, (rd_T24 t150 1).f2, (rd_T24 t150 1).f3, (rd_T24 t150 1).f4⟩ : S24), (⟨(rd_T24 t150 2).f0, (rd_T24 t150 2).f1, (rd_T24 t150 2).f2, (rd_T24 t150 2).f3, (rd_T24 t150 2).f4⟩ : S24)] : List (S24)))).bind fun t208 => (if t208 = true then ((formeref10_Same.f k bt178.1 (([(⟨(rd_T24 t150 0).f0, (rd_T24 t150 0).f1, (rd_T24 t150 0).f2, (rd_T24 t150 0).f3, (rd_T24 t150 0).f4⟩ : S24), (⟨(rd_T24 t150 3).f0, (rd_T24 t150 3).f1, (rd_T24 t150 3).f2, (rd_T24 t150 3).f3, (rd_T24 t150 3).f4⟩ : S24)] : List (S24)))).bind fun t214 => (if t214 = true then (if bt182.1 = 3 then (if bt182.2.1 = true then ((tree_Valid.f t150).bind fun t215 => (if t215 = true then (if 1 ≤ (t150.length : Int) then ((tree_Valid.f (t150.drop 1)).bind fun t220 => (some (!t220))) else (none)) else (none))) else (none)) else (none)) else (none))) else (none))) else (none))) else (none)) else (none)) else (none)) else (none)) else (none))) else (none))) else (none)) else (none)) else (none)) else (none)) else (none)) else (none)) else (none)) else (none))))))))))) = some r := h
 clear h
 replace H := Option.bind_eq_some_iff.mp H
 obtain ⟨t150, A10, H⟩ := H
 try dsimp only at H
 have A1 := Aside0.mk A10
 clear A10
 replace H := Option.bind_eq_some_iff.mp H
 obtain ⟨⟨t153, t154⟩, A20, H⟩ := H
 try dsimp only at H
 have A2 := Aside0.mk A20
 clear A20
 replace H := Option.bind_eq_some_iff.mp H
 obtain ⟨⟨t157, t158⟩, A30, H⟩ := H
 try dsimp only at H
 have A3 := Aside0.mk A30
 clear A30
 replace H := Option.bind_eq_some_iff.mp H
 obtain ⟨⟨t162, t165⟩, A40, H⟩ := H
 try dsimp only at H
 have A4 := Aside0.mk A40
 clear A40
 replace H := Option.bind_eq_some_iff.mp H
 obtain ⟨⟨t166, t167⟩, A50, H⟩ := H
 try dsimp only at H
 have A5 := Aside0.mk A50
 clear A50
 replace H := Option.bind_eq_some_iff.mp H
 obtain ⟨⟨t170, t171⟩, A60, H⟩ := H
 try dsimp only at H
 have A6 := Aside0.mk A60
 clear A60
 replace H := Option.bind_eq_some_iff.mp H
 obtain ⟨⟨t174, t175⟩, A70, H⟩ := H
 try dsimp only at H
 have A7 := Aside0.mk A70
 clear A70
 replace H := Option.bind_eq_some_iff.mp H
 obtain ⟨⟨t178, t179⟩, A80, H⟩ := H
 try dsimp only at H
 have A8 := Aside0.mk A80
 clear A80
 replace H := Option.bind_eq_some_iff.mp H
 obtain ⟨⟨t182, t183, t184⟩, A90, H⟩ := H
 try dsimp only at H
 have A9 := Aside0.mk A90
 clear A90
 by_cases c10 : t154 = 0
 ·rw [if_pos c10] at H
  have c10b0 : (t154 == 0) = true := beq_iff_eq.mpr c10
  have c10b1 : (t154 != 0) = false := bne_eq_false_iff_eq.mpr c10
  clear c10
  by_cases c11 : t158 = 0
  rotate_left
  ·rw [if_neg c11] at H; exact absurd H (by simp)
  rw [if_pos c11] at H
  have c11b0 : (t158 == 0) = true := beq_iff_eq.mpr c11
  have c11b1 : (t158 != 0) = false := bne_eq_false_iff_eq.mpr c11
  clear c11
  by_cases c12 : t165 = 0
  rotate_left
  ·rw [if_neg c12] at H; exact absurd H (by simp)
  rw [if_pos c12] at H
  have c12b0 : (t165 == 0) = true := beq_iff_eq.mpr c12
  have c12b1 : (t165 != 0) = false := bne_eq_false_iff_eq.mpr c12
  clear c12
  by_cases c13 : t167 = 0
  rotate_left
  ·rw [if_neg c13] at H; exact absurd H (by simp)
  rw [if_pos c13] at H
  have c13b0 : (t167 == 0) = true := beq_iff_eq.mpr c13
  have c13b1 : (t167 != 0) = false := bne_eq_false_iff_eq.mpr c13
  clear c13
  by_cases c14 : t171 = 24
  rotate_left
  ·rw [if_neg c14] at H; exact absurd H (by simp)
  rw [if_pos c14] at H
  have c14b0 : (t171 == 24) = true := beq_iff_eq.mpr c14
  have c14b1 : (t171 != 24) = false := bne_eq_false_iff_eq.mpr c14
  clear c14
  by_cases c15 : t175 = 25
  rotate_left
  ·rw [if_neg c15] at H; exact absurd H (by simp)
  rw [if_pos c15] at H
  have c15b0 : (t175 == 25) = true := beq_iff_eq.mpr c15
  have c15b1 : (t175 != 25) = false := bne_eq_false_iff_eq.mpr c15
  clear c15
  by_cases c16 : t179 = 0
  rotate_left
  ·rw [if_neg c16] at H; exact absurd H (by simp)
  rw [if_pos c16] at H
  have c16b0 : (t179 == 0) = true := beq_iff_eq.mpr c16
  have c16b1 : (t179 != 0) = false := bne_eq_false_iff_eq.mpr c16
  clear c16
  by_cases c17 : t184 = 0
  rotate_left
  ·rw [if_neg c17] at H; exact absurd H (by simp)
  rw [if_pos c17] at H
  have c17b0 : (t184 == 0) = true := beq_iff_eq.mpr c17
  have c17b1 : (t184 != 0) = false := bne_eq_false_iff_eq.mpr c17
  clear c17
  obtain ⟨y185, hy185⟩ : ∃ y_ : List Int, y_ = (([2, 4] : List Int)) := ⟨_, rfl⟩
  replace H : ((formeref10_SameInts.f k t153 y185).bind fun t188 => (if t188 = true then ((formeref10_SameInts.f k t157 (([1, 2, 3] : List Int))).bind fun t192 => (if t192 = true then (if 0 < (t150.length : Int) then (if 1 < (t150.length : Int) then (if 2 < (t150.length : Int) then (if 3 < (t150.length : Int) then ((formeref10_Same.f k t162 (([(⟨(rd_T24 t150 0).f0, (rd_T24 t150 0).f1, (rd_T24 t150 0).f2, (rd_T24 t150 0).f3, (rd_T24 t150 0).f4⟩ : S24), (⟨(rd_T24 t150 1).f0, (rd_T24 t150 1).f1, (rd_T24 t150 1).f2, (rd_T24 t150 1).f3, (rd_T24 t150 1).f4⟩ : S24), (⟨(rd_T24 t150 2).f0, (rd_T24 t150 2).f1, (rd_T24 t150 2).f2, (rd_T24 t150 2).f3, (rd_T24 t150 2).f4⟩ : S24), (⟨5, 1, 10, 0, (⟨#[]⟩ : ByteArray)⟩ : S24), (⟨(rd_T24 t150 3).f0, (rd_T24 t150 3).f1, (rd_T24 t150 3).f2, (rd_T24 t150 3).f3, (rd_T24 t150 3).f4⟩ : S24)] : List (S24)))).bind fun t200 => (if t200 = true then ((formeref10_Same.f k t166 (([(⟨(rd_T24 t150 0).f0, (rd_T24 t150 0).f1, (rd_T24 t150 0).f2, (rd_T24 t150 0).f3, (rd_T24 t150 0).f4⟩ : S24), (⟨(rd_T24 t150 3).f0, (rd_T24 t150 3).f1, (rd_T24 t150 3).f2, (rd_T24 t150 3).f3, (rd_T24 t150 3).f4⟩ : S24), (⟨(rd_T24 t150 1).f0, (rd_T24 t150 1).f1, (rd_T24 t150 1).f2, (rd_T24 t150 1).f3, (rd_T24 t150 1).f4⟩ : S24), (⟨(rd_T24 t150 2).f0, (rd_T24 t150 2).f1, (rd_T24 t150 2).f2, (rd_T24 t150 2).f3, (rd_T24 t150 2).f4⟩ : S24)] : List (S24)))).bind fun t208 => (if t208 = true then ((formeref10_Same.f k t178 (([(⟨(rd_T24 t150 0).f0, (rd_T24 t150 0).f1, (rd_T24 t150 0).f2, (rd_T24 t150 0).f3, (rd_T24 t150 0).f4⟩ : S24), (⟨(rd_T24 t150 3).f0, (rd_T24 t150 3).f1, (rd_T24 t150 3).f2, (rd_T24 t150 3).f3, (rd_T24 t150 3).f4⟩ : S24)] : List (S24)))).bind fun t214 => (if t214 = true then (if t182 = 3 then (if t183 = true then ((tree_Valid.f t150).bind fun t215 => (if t215 = true then (if 1 ≤ (t150.length : Int) then ((tree_Valid.f (t150.drop 1)).bind fun t220 => (some (!t220))) else (none)) else (none))) else (none)) else (none)) else (none))) else (none))) else (none))) else (none)) else (none)) else (none)) else (none)) else (none))) else (none))) = some r := by first | (rw [hy185]; with_reducible exact H) | (have H2_ := (Option.bind_some _ _).symm.trans H; rw [hy185]; with_reducible exact H2_) | (have H2_ := (Option.bind_some _ _).symm.trans H; with_reducible exact H2_) | with_reducible exact H | (rw [hy185]; exact H) | exact H
  have Ny185 := Aside0.mk hy185
  clear hy185
  replace H := Option.bind_eq_some_iff.mp H
  obtain ⟨t188, A180, H⟩ := H
  try dsimp only at H
  have A18 := Aside0.mk A180
  clear A180
  by_cases c19 : t188 = true
  ·subst c19
   have H1 : ((formeref10_SameInts.f k t157 (([1, 2, 3] : List Int))).bind fun t192 => (if t192 = true then (if 0 < (t150.length : Int) then (if 1 < (t150.length : Int) then (if 2 < (t150.length : Int) then (if 3 < (t150.length : Int) then ((formeref10_Same.f k t162 (([(⟨(rd_T24 t150 0).f0, (rd_T24 t150 0).f1, (rd_T24 t150 0).f2, (rd_T24 t150 0).f3, (rd_T24 t150 0).f4⟩ : S24), (⟨(rd_T24 t150 1).f0, (rd_T24 t150 1).f1, (rd_T24 t150 1).f2, (rd_T24 t150 1).f3, (rd_T24 t150 1).f4⟩ : S24), (⟨(rd_T24 t150 2).f0, (rd_T24 t150 2).f1, (rd_T24 t150 2).f2, (rd_T24 t150 2).f3, (rd_T24 t150 2).f4⟩ : S24), (⟨5, 1, 10, 0, (⟨#[]⟩ : ByteArray)⟩ : S24), (⟨(rd_T24 t150 3).f0, (rd_T24 t150 3).f1, (rd_T24 t150 3).f2, (rd_T24 t150 3).f3, (rd_T24 t150 3).f4⟩ : S24)] : List (S24)))).bind fun t200 => (if t200 = true then ((formeref10_Same.f k t166 (([(⟨(rd_T24 t150 0).f0, (rd_T24 t150 0).f1, (rd_T24 t150 0).f2, (rd_T24 t150 0).f3, (rd_T24 t150 0).f4⟩ : S24), (⟨(rd_T24 t150 3).f0, (rd_T24 t150 3).f1, (rd_T24 t150 3).f2, (rd_T24 t150 3).f3, (rd_T24 t150 3).f4⟩ : S24), (⟨(rd_T24 t150 1).f0, (rd_T24 t150 1).f1, (rd_T24 t150 1).f2, (rd_T24 t150 1).f3, (rd_T24 t150 1).f4⟩ : S24), (⟨(rd_T24 t150 2).f0, (rd_T24 t150 2).f1, (rd_T24 t150 2).f2, (rd_T24 t150 2).f3, (rd_T24 t150 2).f4⟩ : S24)] : List (S24)))).bind fun t208 => (if t208 = true then ((formeref10_Same.f k t178 (([(⟨(rd_T24 t150 0).f0, (rd_T24 t150 0).f1, (rd_T24 t150 0).f2, (rd_T24 t150 0).f3, (rd_T24 t150 0).f4⟩ : S24), (⟨(rd_T24 t150 3).f0, (rd_T24 t150 3).f1, (rd_T24 t150 3).f2, (rd_T24 t150 3).f3, (rd_T24 t150 3).f4⟩ : S24)] : List (S24)))).bind fun t214 => (if t214 = true then (if t182 = 3 then (if t183 = true then ((tree_Valid.f t150).bind fun t215 => (if t215 = true then (if 1 ≤ (t150.length : Int) then ((tree_Valid.f (t150.drop 1)).bind fun t220 => (some (!t220))) else (none)) else (none))) else (none)) else (none)) else (none))) else (none))) else (none))) else (none)) else (none)) else (none)) else (none)) else (none))) = some r := by rw [if_pos rfl] at H; exact H
   clear H
   have H := H1
   clear H1
   obtain ⟨y189, hy189⟩ : ∃ y_ : List Int, y_ = (([1, 2, 3] : List Int)) := ⟨_, rfl⟩
   replace H : ((formeref10_SameInts.f k t157 y189).bind fun t192 => (if t192 = true then (if 0 < (t150.length : Int) then (if 1 < (t150.length : Int) then (if 2 < (t150.length : Int) then (if 3 < (t150.length : Int) then ((formeref10_Same.f k t162 (([(⟨(rd_T24 t150 0).f0, (rd_T24 t150 0).f1, (rd_T24 t150 0).f2, (rd_T24 t150 0).f3, (rd_T24 t150 0).f4⟩ : S24), (⟨(rd_T24 t150 1).f0, (rd_T24 t150 1).f1, (rd_T24 t150 1).f2, (rd_T24 t150 1).f3, (rd_T24 t150 1).f4⟩ : S24), (⟨(rd_T24 t150 2).f0, (rd_T24 t150 2).f1, (rd_T24 t150 2).f2, (rd_T24 t150 2).f3, (rd_T24 t150 2).f4⟩ : S24), (⟨5, 1, 10, 0, (⟨#[]⟩ : ByteArray)⟩ : S24), (⟨(rd_T24 t150 3).f0, (rd_T24 t150 3).f1, (rd_T24 t150 3).f2, (rd_T24 t150 3).f3, (rd_T24 t150 3).f4⟩ : S24)] : List (S24)))).bind fun t200 => (if t200 = true then ((formeref10_Same.f k t166 (([(⟨(rd_T24 t150 0).f0, (rd_T24 t150 0).f1, (rd_T24 t150 0).f2, (rd_T24 t150 0).f3, (rd_T24 t150 0).f4⟩ : S24), (⟨(rd_T24 t150 3).f0, (rd_T24 t150 3).f1, (rd_T24 t150 3).f2, (rd_T24 t150 3).f3, (rd_T24 t150 3).f4⟩ : S24), (⟨(rd_T24 t150 1).f0, (rd_T24 t150 1).f1, (rd_T24 t150 1).f2, (rd_T24 t150 1).f3, (rd_T24 t150 1).f4⟩ : S24), (⟨(rd_T24 t150 2).f0, (rd_T24 t150 2).f1, (rd_T24 t150 2).f2, (rd_T24 t150 2).f3, (rd_T24 t150 2).f4⟩ : S24)] : List (S24)))).bind fun t208 => (if t208 = true then ((formeref10_Same.f k t178 (([(⟨(rd_T24 t150 0).f0, (rd_T24 t150 0).f1, (rd_T24 t150 0).f2, (rd_T24 t150 0).f3, (rd_T24 t150 0).f4⟩ : S24), (⟨(rd_T24 t150 3).f0, (rd_T24 t150 3).f1, (rd_T24 t150 3).f2, (rd_T24 t150 3).f3, (rd_T24 t150 3).f4⟩ : S24)] : List (S24)))).bind fun t214 => (if t214 = true then (if t182 = 3 then (if t183 = true then ((tree_Valid.f t150).bind fun t215 => (if t215 = true then (if 1 ≤ (t150.length : Int) then ((tree_Valid.f (t150.drop 1)).bind fun t220 => (some (!t220))) else (none)) else (none))) else (none)) else (none)) else (none))) else (none))) else (none))) else (none)) else (none)) else (none)) else (none)) else (none))) = some r := by first | (rw [hy189]; with_reducible exact H) | (have H2_ := (Option.bind_some _ _).symm.trans H; rw [hy189]; with_reducible exact H2_) | (have H2_ := (Option.bind_some _ _).symm.trans H; with_reducible exact H2_) | with_reducible exact H | (rw [hy189]; exact H) | exact H
   have Ny189 := Aside0.mk hy189
   clear hy189
   replace H := Option.bind_eq_some_iff.mp H
   obtain ⟨t192, A200, H⟩ := H
   try dsimp only at H
   have A20 := Aside0.mk A200
   clear A200
   by_cases c21 : t192 = true
   ·subst c21
    have H1 : (if 0 < (t150.length : Int) then (if 1 < (t150.length : Int) then (if 2 < (t150.length : Int) then (if 3 < (t150.length : Int) then ((formeref10_Same.f k t162 (([(⟨(rd_T24 t150 0).f0, (rd_T24 t150 0).f1, (rd_T24 t150 0).f2, (rd_T24 t150 0).f3, (rd_T24 t150 0).f4⟩ : S24), (⟨(rd_T24 t150 1).f0, (rd_T24 t150 1).f1, (rd_T24 t150 1).f2, (rd_T24 t150 1).f3, (rd_T24 t150 1).f4⟩ : S24), (⟨(rd_T24 t150 2).f0, (rd_T24 t150 2).f1, (rd_T24 t150 2).f2, (rd_T24 t150 2).f3, (rd_T24 t150 2).f4⟩ : S24), (⟨5, 1, 10, 0, (⟨#[]⟩ : ByteArray)⟩ : S24), (⟨(rd_T24 t150 3).f0, (rd_T24 t150 3).f1, (rd_T24 t150 3).f2, (rd_T24 t150 3).f3, (rd_T24 t150 3).f4⟩ : S24)] : List (S24)))).bind fun t200 => (if t200 = true then ((formeref10_Same.f k t166 (([(⟨(rd_T24 t150 0).f0, (rd_T24 t150 0).f1, (rd_T24 t150 0).f2, (rd_T24 t150 0).f3, (rd_T24 t150 0).f4⟩ : S24), (⟨(rd_T24 t150 3).f0, (rd_T24 t150 3).f1, (rd_T24 t150 3).f2, (rd_T24 t150 3).f3, (rd_T24 t150 3).f4⟩ : S24), (⟨(rd_T24 t150 1).f0, (rd_T24 t150 1).f1, (rd_T24 t150 1).f2, (rd_T24 t150 1).f3, (rd_T24 t150 1).f4⟩ : S24), (⟨(rd_T24 t150 2).f0, (rd_T24 t150 2).f1, (rd_T24 t150 2).f2, (rd_T24 t150 2).f3, (rd_T24 t150 2).f4⟩ : S24)] : List (S24)))).bind fun t208 => (if t208 = true then ((formeref10_Same.f k t178 (([(⟨(rd_T24 t150 0).f0, (rd_T24 t150 0).f1, (rd_T24 t150 0).f2, (rd_T24 t150 0).f3, (rd_T24 t150 0).f4⟩ : S24), (⟨(rd_T24 t150 3).f0, (rd_T24 t150 3).f1, (rd_T24 t150 3).f2, (rd_T24 t150 3).f3, (rd_T24 t150 3).f4⟩ : S24)] : List (S24)))).bind fun t214 => (if t214 = true then (if t182 = 3 then (if t183 = true then ((tree_Valid.f t150).bind fun t215 => (if t215 = true then (if 1 ≤ (t150.length : Int) then ((tree_Valid.f (t150.drop 1)).bind fun t220 => (some (!t220))) else (none)) else (none))) else (none)) else (none)) else (none))) else (none))) else (none))) else (none)) else (none)) else (none)) else (none)) = some r := by rw [if_pos rfl] at H; exact H
    clear H
    have H := H1
    clear H1
    by_cases c22 : 0 < (t150.length : Int)
    rotate_left
    ·rw [if_neg c22] at H; exact absurd H (by simp)
    rw [if_pos c22] at H
    have c22b0 : decide (0 < (t150.length : Int)) = true := decide_eq_true c22
    have c22b1 : decide (0 < t150.length) = true := decide_eq_true (by omega)
    clear c22
    by_cases c23 : 1 < (t150.length : Int)
    rotate_left
    ·rw [if_neg c23] at H; exact absurd H (by simp)
    rw [if_pos c23] at H
    have c23b0 : decide (1 < (t150.length : Int)) = true := decide_eq_true c23
    have c23b1 : decide (1 < t150.length) = true := decide_eq_true (by omega)
    clear c23
    by_cases c24 : 2 < (t150.length : Int)
    rotate_left
    ·rw [if_neg c24] at H; exact absurd H (by simp)
    rw [if_pos c24] at H
    have c24b0 : decide (2 < (t150.length : Int)) = true := decide_eq_true c24
    have c24b1 : decide (2 < t150.length) = true := decide_eq_true (by omega)
    clear c24
    by_cases c25 : 3 < (t150.length : Int)
    rotate_left
    ·rw [if_neg c25] at H; exact absurd H (by simp)
    rw [if_pos c25] at H
    have c25b0 : decide (3 < (t150.length : Int)) = true := decide_eq_true c25
    have c25b1 : decide (3 < t150.length) = true := decide_eq_true (by omega)
    clear c25
    obtain ⟨y197, hy197⟩ : ∃ y_ : List (S24), y_ = (([(⟨(rd_T24 t150 0).f0, (rd_T24 t150 0).f1, (rd_T24 t150 0).f2, (rd_T24 t150 0).f3, (rd_T24 t150 0).f4⟩ : S24), (⟨(rd_T24 t150 1).f0, (rd_T24 t150 1).f1, (rd_T24 t150 1).f2, (rd_T24 t150 1).f3, (rd_T24 t150 1).f4⟩ : S24), (⟨(rd_T24 t150 2).f0, (rd_T24 t150 2).f1, (rd_T24 t150 2).f2, (rd_T24 t150 2).f3, (rd_T24 t150 2).f4⟩ : S24), (⟨5, 1, 10, 0, (⟨#[]⟩ : ByteArray)⟩ : S24), (⟨(rd_T24 t150 3).f0, (rd_T24 t150 3).f1, (rd_T24 t150 3).f2, (rd_T24 t150 3).f3, (rd_T24 t150 3).f4⟩ : S24)] : List (S24))) := ⟨_, rfl⟩
    replace H : ((formeref10_Same.f k t162 y197).bind fun t200 => (if t200 = true then ((formeref10_Same.f k t166 (([(⟨(rd_T24 t150 0).f0, (rd_T24 t150 0).f1, (rd_T24 t150 0).f2, (rd_T24 t150 0).f3, (rd_T24 t150 0).f4⟩ : S24), (⟨(rd_T24 t150 3).f0, (rd_T24 t150 3).f1, (rd_T24 t150 3).f2, (rd_T24 t150 3).f3, (rd_T24 t150 3).f4⟩ : S24), (⟨(rd_T24 t150 1).f0, (rd_T24 t150 1).f1, (rd_T24 t150 1).f2, (rd_T24 t150 1).f3, (rd_T24 t150 1).f4⟩ : S24), (⟨(rd_T24 t150 2).f0, (rd_T24 t150 2).f1, (rd_T24 t150 2).f2, (rd_T24 t150 2).f3, (rd_T24 t150 2).f4⟩ : S24)] : List (S24)))).bind fun t208 => (if t208 = true then ((formeref10_Same.f k t178 (([(⟨(rd_T24 t150 0).f0, (rd_T24 t150 0).f1, (rd_T24 t150 0).f2, (rd_T24 t150 0).f3, (rd_T24 t150 0).f4⟩ : S24), (⟨(rd_T24 t150 3).f0, (rd_T24 t150 3).f1, (rd_T24 t150 3).f2, (rd_T24 t150 3).f3, (rd_T24 t150 3).f4⟩ : S24)] : List (S24)))).bind fun t214 => (if t214 = true then (if t182 = 3 then (if t183 = true then ((tree_Valid.f t150).bind fun t215 => (if t215 = true then (if 1 ≤ (t150.length : Int) then ((tree_Valid.f (t150.drop 1)).bind fun t220 => (some (!t220))) else (none)) else (none))) else (none)) else (none)) else (none))) else (none))) else (none))) = some r := by first | (rw [hy197]; with_reducible exact H) | (have H2_ := (Option.bind_some _ _).symm.trans H; rw [hy197]; with_reducible exact H2_) | (have H2_ := (Option.bind_some _ _).symm.trans H; with_reducible exact H2_) | with_reducible exact H | (rw [hy197]; exact H) | exact H
    have Ny197 := Aside0.mk hy197
    clear hy197
    replace H := Option.bind_eq_some_iff.mp H
    obtain ⟨t200, A260, H⟩ := H
    try dsimp only at H
    have A26 := Aside0.mk A260
    clear A260
    by_cases c27 : t200 = true
    ·subst c27
     have H1 : ((formeref10_Same.f k t166 (([(⟨(rd_T24 t150 0).f0, (rd_T24 t150 0).f1, (rd_T24 t150 0).f2, (rd_T24 t150 0).f3, (rd_T24 t150 0).f4⟩ : S24), (⟨(rd_T24 t150 3).f0, (rd_T24 t150 3).f1, (rd_T24 t150 3).f2, (rd_T24 t150 3).f3, (rd_T24 t150 3).f4⟩ : S24), (⟨(rd_T24 t150 1).f0, (rd_T24 t150 1).f1, (rd_T24 t150 1).f2, (rd_T24 t150 1).f3, (rd_T24 t150 1).f4⟩ : S24), (⟨(rd_T24 t150 2).f0, (rd_T24 t150 2).f1, (rd_T24 t150 2).f2, (rd_T24 t150 2).f3, (rd_T24 t150 2).f4⟩ : S24)] : List (S24)))).bind fun t208 => (if t208 = true then ((formeref10_Same.f k t178 (([(⟨(rd_T24 t150 0).f0, (rd_T24 t150 0).f1, (rd_T24 t150 0).f2, (rd_T24 t150 0).f3, (rd_T24 t150 0).f4⟩ : S24), (⟨(rd_T24 t150 3).f0, (rd_T24 t150 3).f1, (rd_T24 t150 3).f2, (rd_T24 t150 3).f3, (rd_T24 t150 3).f4⟩ : S24)] : List (S24)))).bind fun t214 => (if t214 = true then (if t182 = 3 then (if t183 = true then ((tree_Valid.f t150).bind fun t215 => (if t215 = true then (if 1 ≤ (t150.length : Int) then ((tree_Valid.f (t150.drop 1)).bind fun t220 => (some (!t220))) else (none)) else (none))) else (none)) else (none)) else (none))) else (none))) = some r := by rw [if_pos rfl] at H; exact H
     clear H
     have H := H1
     clear H1
     obtain ⟨y205, hy205⟩ : ∃ y_ : List (S24), y_ = (([(⟨(rd_T24 t150 0).f0, (rd_T24 t150 0).f1, (rd_T24 t150 0).f2, (rd_T24 t150 0).f3, (rd_T24 t150 0).f4⟩ : S24), (⟨(rd_T24 t150 3).f0, (rd_T24 t150 3).f1, (rd_T24 t150 3).f2, (rd_T24 t150 3).f3, (rd_T24 t150 3).f4⟩ : S24), (⟨(rd_T24 t150 1).f0, (rd_T24 t150 1).f1, (rd_T24 t150 1).f2, (rd_T24 t150 1).f3, (rd_T24 t150 1).f4⟩ : S24), (⟨(rd_T24 t150 2).f0, (rd_T24 t150 2).f1, (rd_T24 t150 2).f2, (rd_T24 t150 2).f3, (rd_T24 t150 2).f4⟩ : S24)] : List (S24))) := ⟨_, rfl⟩
     replace H : ((formeref10_Same.f k t166 y205).bind fun t208 => (if t208 = true then ((formeref10_Same.f k t178 (([(⟨(rd_T24 t150 0).f0, (rd_T24 t150 0).f1, (rd_T24 t150 0).f2, (rd_T24 t150 0).f3, (rd_T24 t150 0).f4⟩ : S24), (⟨(rd_T24 t150 3).f0, (rd_T24 t150 3).f1, (rd_T24 t150 3).f2, (rd_T24 t150 3).f3, (rd_T24 t150 3).f4⟩ : S24)] : List (S24)))).bind fun t214 => (if t214 = true then (if t182 = 3 then (if t183 = true then ((tree_Valid.f t150).bind fun t215 => (if t215 = true then (if 1 ≤ (t150.length : Int) then ((tree_Valid.f (t150.drop 1)).bind fun t220 => (some (!t220))) else (none)) else (none))) else (none)) else (none)) else (none))) else (none))) = some r := by first | (rw [hy205]; with_reducible exact H) | (have H2_ := (Option.bind_some _ _).symm.trans H; rw [hy205]; with_reducible exact H2_) | (have H2_ := (Option.bind_some _ _).symm.trans H; with_reducible exact H2_) | with_reducible exact H | (rw [hy205]; exact H) | exact H
     have Ny205 := Aside0.mk hy205
     clear hy205
     replace H := Option.bind_eq_some_iff.mp H
     obtain ⟨t208, A280, H⟩ := H
     try dsimp only at H
     have A28 := Aside0.mk A280
     clear A280
     by_cases c29 : t208 = true
     ·subst c29
      have H1 : ((formeref10_Same.f k t178 (([(⟨(rd_T24 t150 0).f0, (rd_T24 t150 0).f1, (rd_T24 t150 0).f2, (rd_T24 t150 0).f3, (rd_T24 t150 0).f4⟩ : S24), (⟨(rd_T24 t150 3).f0, (rd_T24 t150 3).f1, (rd_T24 t150 3).f2, (rd_T24 t150 3).f3, (rd_T24 t150 3).f4⟩ : S24)] : List (S24)))).bind fun t214 => (if t214 = true then (if t182 = 3 then (if t183 = true then ((tree_Valid.f t150).bind fun t215 => (if t215 = true then (if 1 ≤ (t150.length : Int) then ((tree_Valid.f (t150.drop 1)).bind fun t220 => (some (!t220))) else (none)) else (none))) else (none)) else (none)) else (none))) = some r := by rw [if_pos rfl] at H; exact H
      clear H
      have H := H1
      clear H1
      obtain ⟨y211, hy211⟩ : ∃ y_ : List (S24), y_ = (([(⟨(rd_T24 t150 0).f0, (rd_T24 t150 0).f1, (rd_T24 t150 0).f2, (rd_T24 t150 0).f3, (rd_T24 t150 0).f4⟩ : S24), (⟨(rd_T24 t150 3).f0, (rd_T24 t150 3).f1, (rd_T24 t150 3).f2, (rd_T24 t150 3).f3, (rd_T24 t150 3).f4⟩ : S24)] : List (S24))) := ⟨_, rfl⟩
      replace H : ((formeref10_Same.f k t178 y211).bind fun t214 => (if t214 = true then (if t182 = 3 then (if t183 = true then ((tree_Valid.f t150).bind fun t215 => (if t215 = true then (if 1 ≤ (t150.length : Int) then ((tree_Valid.f (t150.drop 1)).bind fun t220 => (some (!t220))) else (none)) else (none))) else (none)) else (none)) else (none))) = some r := by first | (rw [hy211]; with_reducible exact H) | (have H2_ := (Option.bind_some _ _).symm.trans H; rw [hy211]; with_reducible exact H2_) | (have H2_ := (Option.bind_some _ _).symm.trans H; with_reducible exact H2_) | with_reducible exact H | (rw [hy211]; exact H) | exact H
      have Ny211 := Aside0.mk hy211
      clear hy211
      replace H := Option.bind_eq_some_iff.mp H
      obtain ⟨t214, A300, H⟩ := H
      try dsimp only at H
      have A30 := Aside0.mk A300
      clear A300
      by_cases c31 : t214 = true
      ·subst c31
       have H1 : (if t182 = 3 then (if t183 = true then ((tree_Valid.f t150).bind fun t215 => (if t215 = true then (if 1 ≤ (t150.length : Int) then ((tree_Valid.f (t150.drop 1)).bind fun t220 => (some (!t220))) else (none)) else (none))) else (none)) else (none)) = some r := by rw [if_pos rfl] at H; exact H
       clear H
       have H := H1
       clear H1
       by_cases c32 : t182 = 3
       rotate_left
       ·rw [if_neg c32] at H; exact absurd H (by simp)
       rw [if_pos c32] at H
       have c32b0 : (t182 == 3) = true := beq_iff_eq.mpr c32
       have c32b1 : (t182 != 3) = false := bne_eq_false_iff_eq.mpr c32
       clear c32
       by_cases c33 : t183 = true
       ·subst c33
        have H1 : ((tree_Valid.f t150).bind fun t215 => (if t215 = true then (if 1 ≤ (t150.length : Int) then ((tree_Valid.f (t150.drop 1)).bind fun t220 => (some (!t220))) else (none)) else (none))) = some r := by rw [if_pos rfl] at H; exact H
        clear H
        have H := H1
        clear H1
        replace H := Option.bind_eq_some_iff.mp H
        obtain ⟨t215, A340, H⟩ := H
        try dsimp only at H
        have A34 := Aside0.mk A340
        clear A340
        by_cases c35 : t215 = true
        ·subst c35
         have H1 : (if 1 ≤ (t150.length : Int) then ((tree_Valid.f (t150.drop 1)).bind fun t220 => (some (!t220))) else (none)) = some r := by rw [if_pos rfl] at H; exact H
         clear H
         have H := H1
         clear H1
         by_cases c36 : 1 ≤ (t150.length : Int)
         rotate_left
         ·rw [if_neg c36] at H; exact absurd H (by simp)
         rw [if_pos c36] at H
         have c36b0 := eq_true c36
         have c36b1 : decide (1 ≤ (t150.length : Int)) = true := decide_eq_true c36
         clear c36
         obtain ⟨y216, hy216⟩ : ∃ y_ : List (S24), y_ = (t150.drop 1) := ⟨_, rfl⟩
         replace H : ((tree_Valid.f y216).bind fun t220 => (some (!t220))) = some r := by first | (rw [hy216]; with_reducible exact H) | (have H2_ := (Option.bind_some _ _).symm.trans H; rw [hy216]; with_reducible exact H2_) | (have H2_ := (Option.bind_some _ _).symm.trans H; with_reducible exact H2_) | with_reducible exact H | (rw [hy216]; exact H) | exact H
         have Ny216 := Aside0.mk hy216
         clear hy216
         replace H := Option.bind_eq_some_iff.mp H
         obtain ⟨t220, A370, H⟩ := H
         try dsimp only at H
         have A37 := Aside0.mk A370
         clear A370
         obtain rfl := Option.some.inj H
         go_enter Try.func9, Try.ntmps9
         try go_wp2_with (first | ((with_reducible refine gate_callee (f := 30) rfl ?_); refine goesL_ (some 21) rfl rfl Try.func30 (by kernel_rfl) rfl #[] rfl z2_ ?_; (with_reducible refine (formelaw10_example.calls  t150 _ A1.out).mono ?_); rintro e w38 ⟨v151, rfl, ho0, hb⟩; refine ⟨_, rfl, ?_⟩; have n0_ := Aside0.mk (Kd.R_lower ho0 (below_size z1_)); have n1_ := Aside0.mk (below_step z1_ hb); clear HB; have HO152 := n0_; have HB := n1_; clear n0_ n1_; (try clear hb); (try clear hb2); (try clear hk); (try clear hi); (try clear ho0); obtain ⟨Ao39, co39, eo39⟩ := Kd.R_slice HO152.out; subst eo39) | ((with_reducible refine gate_callee (f := 15) rfl ?_); refine goesL_ (some 24) rfl rfl Try.func15 (by kernel_rfl) rfl #[.slice Ao39 t150.length co39, .int .i64 1] rfl z2_ ?_; (with_reducible refine (tree_Kids.calls k _ _ t150 1 t153 t154 _ ?side1 ?side2 A2.out).mono ?_); (case side1 => exact z21_); (case side2 => exact z34_); rintro e w40 ⟨v155, rfl, ho0, hb⟩; refine ⟨_, rfl, ?_⟩; have n0_ := Aside0.mk (Kd.R_below z7_ hb); have n1_ := Aside0.mk (Kd.R_lower ho0 (below_size z1_)); have n2_ := Aside0.mk (below_step z1_ hb); clear HO152; clear HB; have HO152 := n0_; have HO156 := n1_; have HB := n2_; clear n0_ n1_ n2_; (try clear hb); (try clear hb2); (try clear hk); (try clear hi); (try clear ho0)) | ((with_reducible refine gate_callee (f := 18) rfl ?_); refine goesL_ (some 29) rfl rfl Try.func18 (by kernel_rfl) rfl #[.slice Ao39 t150.length co39, .int .i64 3] rfl z2_ ?_; (with_reducible refine (tree_Path.calls _ _ t150 3 t157 t158 _ ?side1 ?side2 A3.out).mono ?_); (case side1 => exact z21_); (case side2 => exact z34_); rintro e w41 ⟨v159, rfl, ho0, hb⟩; refine ⟨_, rfl, ?_⟩; have n0_ := Aside0.mk (Kd.R_below z7_ hb); have n1_ := Aside0.mk (Kd.R_elder' z14_ (Kd.R_base ho0) hb); have n2_ := Aside0.mk (Kd.R_lower (Kd.R_new' ho0 (Kd.R_lt z14_)) (below_size z1_)); have n3_ := Aside0.mk (below_step z1_ hb); clear HO152; clear HO156; clear HB; have HO152 := n0_; have HO156 := n1_; have HO160 := n2_; have HB := n3_; clear n0_ n1_ n2_ n3_; (try clear hb); (try clear hb2); (try clear hk); (try clear hi); (try clear ho0)) | ((with_reducible refine gate_dst (N := 6) rfl ?_); (try (refine gate_guard (by rfl) ?_; dsimp only)); refine box_event ?hg (N := 6) ?hd (cs := #[.int .i64 0, .int .i64 0, .int .i64 0, .int .i64 0, .string (⟨#[]⟩ : ByteArray)]) (t := 24) ?hr ?_; (case hd => rfl); (case hg => rfl); (case hr => exact z11_); intro gb161 hg w42 hbox hb; have n0_ := Aside0.mk (Kd.R_below (Kd.R_elderB z7_ gb161 (Nat.le_of_eq hg.symm)) hb); have n1_ := Aside0.mk (Kd.R_below z14_ hb); have n2_ := Aside0.mk (Kd.R_below z17_ hb); have n3_ := Aside0.mk (below_step z1_ hb); have n4_ := Aside0.mk (hbox); have n5_ := Aside0.mk ((by rw [hg]; exact (below_size z1_) : w.heap.size ≤ gb161)); have n6_ := Aside0.mk ((by rw [hg]; exact (below_size z1_) : w.heap.size ≤ gb161)); clear HO152; clear HO156; clear HO160; clear HB; have HO152 := n0_; have HO156 := n1_; have HO160 := n2_; have HB := n3_; have BK161 := n4_; have GW161 := n5_; have GE161 := n6_; clear n0_ n1_ n2_ n3_ n4_ n5_ n6_; clear hb hbox hg; have hcz43_0 : w42.cell? ⟨gb161, 0, none⟩ = some (.int .i64 0) := (blk_cell BK161.out 0).trans rfl; have hcz43_1 : w42.cell? ⟨gb161, 1, none⟩ = some (.int .i64 0) := (blk_cell BK161.out 1).trans rfl; have hcz43_2 : w42.cell? ⟨gb161, 2, none⟩ = some (.int .i64 0) := (blk_cell BK161.out 2).trans rfl; have hcz43_3 : w42.cell? ⟨gb161, 3, none⟩ = some (.int .i64 0) := (blk_cell BK161.out 3).trans rfl; have hcz43_4 : w42.cell? ⟨gb161, 4, none⟩ = some (.string (⟨#[]⟩ : ByteArray)) := (blk_cell BK161.out 4).trans rfl; have hfz43_0 := blk_frozen BK161.out 0; have hfz43_1 := blk_frozen BK161.out 1; have hfz43_2 := blk_frozen BK161.out 2; have hfz43_3 := blk_frozen BK161.out 3; have hfz43_4 := blk_frozen BK161.out 4) | ((with_reducible refine gate_callee (f := 20) rfl ?_); refine goesL_ (some 36) rfl rfl Try.func20 (by kernel_rfl) rfl #[.slice Ao39 t150.length co39, .agg #[.int .i64 5, .int .i64 1, .int .i64 10, .int .i64 0, .string (⟨#[]⟩ : ByteArray)], .int .i64 4] rfl z2_ ?_; (with_reducible refine (tree_Insert.calls _ _ t150 5 1 10 0 (⟨#[]⟩ : ByteArray) 4 t162 t165 _ ?side1 ?side2 A4.out).mono ?_); (case side1 => refine (Kd.R_reads' (e := 24) (base := w.heap.size) (ok := fun k_ => (True ∧ k_ ≠ gb161)) (n := t150.length) (c := co39) ?_).2.2; exact z23_); (case side2 => exact z34_); rintro e w44 ⟨v163, rfl, ho0, hb⟩; refine ⟨_, rfl, ?_⟩; have n0_ := Aside0.mk (Kd.R_elder' z23_ (Kd.R_base ho0) hb); have n1_ := Aside0.mk (Kd.R_below (by (with_reducible repeat (first | apply Kd.R_alloc | apply Kd.R_drewN | apply Kd.R_drew)); exact (Kd.R_mono (Kd.R_far (p := ⟨gb161, 4, none⟩) (Kd.R_far (p := ⟨gb161, 3, none⟩) (Kd.R_far (p := ⟨gb161, 2, none⟩) (Kd.R_far (p := ⟨gb161, 1, none⟩) (Kd.R_far (p := ⟨gb161, 0, none⟩) (Kd.R_types HO156.out BK161.out (by decide)) (fun _ hk => hk.2) (.int .i64 5)) (fun _ hk => hk.2) (.int .i64 1)) (fun _ hk => hk.2) (.int .i64 10)) (fun _ hk => hk.2) (.int .i64 0)) (fun _ hk => hk.2) (.string (⟨#[]⟩ : ByteArray))) (fun _ h_ => h_.1))) hb); have n2_ := Aside0.mk (Kd.R_below (by (with_reducible repeat (first | apply Kd.R_alloc | apply Kd.R_drewN | apply Kd.R_drew)); exact (Kd.R_mono (Kd.R_far (p := ⟨gb161, 4, none⟩) (Kd.R_far (p := ⟨gb161, 3, none⟩) (Kd.R_far (p := ⟨gb161, 2, none⟩) (Kd.R_far (p := ⟨gb161, 1, none⟩) (Kd.R_far (p := ⟨gb161, 0, none⟩) (Kd.R_types HO160.out BK161.out (by decide)) (fun _ hk => hk.2) (.int .i64 5)) (fun _ hk => hk.2) (.int .i64 1)) (fun _ hk => hk.2) (.int .i64 10)) (fun _ hk => hk.2) (.int .i64 0)) (fun _ hk => hk.2) (.string (⟨#[]⟩ : ByteArray))) (fun _ h_ => h_.1))) hb); have n3_ := Aside0.mk (Kd.R_lower (Kd.R_newB (Kd.R_new' ho0 (Kd.R_lt z23_)) (g := gb161) (o := .cells #[.int .i64 5, .int .i64 1, .int .i64 10, .int .i64 0, .string (⟨#[]⟩ : ByteArray)] 24 (0, 0)) z35_) (below_size z4_)); have n4_ := Aside0.mk (blk_below (g := gb161) (o := .cells #[.int .i64 5, .int .i64 1, .int .i64 10, .int .i64 0, .string (⟨#[]⟩ : ByteArray)] 24 (0, 0)) z35_ hb); have n5_ := Aside0.mk (below_step z4_ hb); clear HO152; clear HO156; clear HO160; clear BK161; clear HB; have HO152 := n0_; have HO156 := n1_; have HO160 := n2_; have HO164 := n3_; have BK161 := n4_; have HB := n5_; clear n0_ n1_ n2_ n3_ n4_ n5_; (try clear hb); (try clear hb2); (try clear hk); (try clear hi); (try clear ho0)) | ((with_reducible refine gate_callee (f := 25) rfl ?_); refine goesL_ (some 41) rfl rfl Try.func25 (by kernel_rfl) rfl #[.slice Ao39 t150.length co39, .int .i64 2, .int .i64 1, .int .i64 0] rfl z2_ ?_; (with_reducible refine (tree_Move.calls _ _ t150 2 1 0 t166 t167 _ ?side1 ?side2 A5.out).mono ?_); (case side1 => exact z21_); (case side2 => exact z34_); rintro e w45 ⟨v168, rfl, ho0, hb⟩; refine ⟨_, rfl, ?_⟩; have n0_ := Aside0.mk (Kd.R_elder' z7_ (Kd.R_base ho0) hb); have n1_ := Aside0.mk (Kd.R_below z14_ hb); have n2_ := Aside0.mk (Kd.R_below z17_ hb); have n3_ := Aside0.mk (Kd.R_elder' z12_ (Kd.R_base ho0) hb); have n4_ := Aside0.mk (Kd.R_lower (Kd.R_newB (Kd.R_new' (Kd.R_new' ho0 (Kd.R_lt z7_)) (Kd.R_lt z12_)) (g := gb161) (o := .cells #[.int .i64 5, .int .i64 1, .int .i64 10, .int .i64 0, .string (⟨#[]⟩ : ByteArray)] 24 (0, 0)) z6_) (below_size z4_)); have n5_ := Aside0.mk (blk_below (g := gb161) (o := .cells #[.int .i64 5, .int .i64 1, .int .i64 10, .int .i64 0, .string (⟨#[]⟩ : ByteArray)] 24 (0, 0)) z6_ hb); have n6_ := Aside0.mk (below_step z4_ hb); clear HO152; clear HO156; clear HO160; clear HO164; clear BK161; clear HB; have HO152 := n0_; have HO156 := n1_; have HO160 := n2_; have HO164 := n3_; have HO169 := n4_; have BK161 := n5_; have HB := n6_; clear n0_ n1_ n2_ n3_ n4_ n5_ n6_; (try clear hb); (try clear hb2); (try clear hk); (try clear hi); (try clear ho0)) | ((with_reducible refine gate_callee (f := 25) rfl ?_); refine goesL_ (some 46) rfl rfl Try.func25 (by kernel_rfl) rfl #[.slice Ao39 t150.length co39, .int .i64 2, .int .i64 3, .int .i64 0] rfl z2_ ?_; (with_reducible refine (tree_Move.calls _ _ t150 2 3 0 t170 t171 _ ?side1 ?side2 A6.out).mono ?_); (case side1 => exact z21_); (case side2 => exact z34_); rintro e w46 ⟨v172, rfl, ho0, hb⟩; refine ⟨_, rfl, ?_⟩; have n0_ := Aside0.mk (Kd.R_elder' z7_ (Kd.R_base ho0) hb); have n1_ := Aside0.mk (Kd.R_below z14_ hb); have n2_ := Aside0.mk (Kd.R_below z17_ hb); have n3_ := Aside0.mk (Kd.R_elder' z12_ (Kd.R_base ho0) hb); have n4_ := Aside0.mk (Kd.R_elder' z15_ (Kd.R_base ho0) hb); have n5_ := Aside0.mk (Kd.R_lower (Kd.R_newB (Kd.R_new' (Kd.R_new' (Kd.R_new' ho0 (Kd.R_lt z7_)) (Kd.R_lt z12_)) (Kd.R_lt z15_)) (g := gb161) (o := .cells #[.int .i64 5, .int .i64 1, .int .i64 10, .int .i64 0, .string (⟨#[]⟩ : ByteArray)] 24 (0, 0)) z6_) (below_size z4_)); have n6_ := Aside0.mk (blk_below (g := gb161) (o := .cells #[.int .i64 5, .int .i64 1, .int .i64 10, .int .i64 0, .string (⟨#[]⟩ : ByteArray)] 24 (0, 0)) z6_ hb); have n7_ := Aside0.mk (below_step z4_ hb); clear HO152; clear HO156; clear HO160; clear HO164; clear HO169; clear BK161; clear HB; have HO152 := n0_; have HO156 := n1_; have HO160 := n2_; have HO164 := n3_; have HO169 := n4_; have HO173 := n5_; have BK161 := n6_; have HB := n7_; clear n0_ n1_ n2_ n3_ n4_ n5_ n6_ n7_; (try clear hb); (try clear hb2); (try clear hk); (try clear hi); (try clear ho0)) | ((with_reducible refine gate_callee (f := 25) rfl ?_); refine goesL_ (some 51) rfl rfl Try.func25 (by kernel_rfl) rfl #[.slice Ao39 t150.length co39, .int .i64 4, .int .i64 3, .int .i64 0] rfl z2_ ?_; (with_reducible refine (tree_Move.calls _ _ t150 4 3 0 t174 t175 _ ?side1 ?side2 A7.out).mono ?_); (case side1 => exact z21_); (case side2 => exact z34_); rintro e w47 ⟨v176, rfl, ho0, hb⟩; refine ⟨_, rfl, ?_⟩; have n0_ := Aside0.mk (Kd.R_elder' z7_ (Kd.R_base ho0) hb); have n1_ := Aside0.mk (Kd.R_below z14_ hb); have n2_ := Aside0.mk (Kd.R_below z17_ hb); have n3_ := Aside0.mk (Kd.R_elder' z12_ (Kd.R_base ho0) hb); have n4_ := Aside0.mk (Kd.R_elder' z15_ (Kd.R_base ho0) hb); have n5_ := Aside0.mk (Kd.R_elder' z18_ (Kd.R_base ho0) hb); have n6_ := Aside0.mk (Kd.R_lower (Kd.R_newB (Kd.R_new' (Kd.R_new' (Kd.R_new' (Kd.R_new' ho0 (Kd.R_lt z7_)) (Kd.R_lt z12_)) (Kd.R_lt z15_)) (Kd.R_lt z18_)) (g := gb161) (o := .cells #[.int .i64 5, .int .i64 1, .int .i64 10, .int .i64 0, .string (⟨#[]⟩ : ByteArray)] 24 (0, 0)) z6_) (below_size z4_)); have n7_ := Aside0.mk (blk_below (g := gb161) (o := .cells #[.int .i64 5, .int .i64 1, .int .i64 10, .int .i64 0, .string (⟨#[]⟩ : ByteArray)] 24 (0, 0)) z6_ hb); have n8_ := Aside0.mk (below_step z4_ hb); clear HO152; clear HO156; clear HO160; clear HO164; clear HO169; clear HO173; clear BK161; clear HB; have HO152 := n0_; have HO156 := n1_; have HO160 := n2_; have HO164 := n3_; have HO169 := n4_; have HO173 := n5_; have HO177 := n6_; have BK161 := n7_; have HB := n8_; clear n0_ n1_ n2_ n3_ n4_ n5_ n6_ n7_ n8_; (try clear hb); (try clear hb2); (try clear hk); (try clear hi); (try clear ho0)) | ((with_reducible refine gate_callee (f := 23) rfl ?_); refine goesL_ (some 56) rfl rfl Try.func23 (by kernel_rfl) rfl #[.slice Ao39 t150.length co39, .int .i64 2] rfl z2_ ?_; (with_reducible refine (tree_Remove.calls _ _ t150 2 t178 t179 _ ?side1 ?side2 A8.out).mono ?_); (case side1 => exact z21_); (case side2 => exact z34_); rintro e w48 ⟨v180, rfl, ho0, hb⟩; refine ⟨_, rfl, ?_⟩; have n0_ := Aside0.mk (Kd.R_elder' z7_ (Kd.R_base ho0) hb); have n1_ := Aside0.mk (Kd.R_below z14_ hb); have n2_ := Aside0.mk (Kd.R_below z17_ hb); have n3_ := Aside0.mk (Kd.R_elder' z12_ (Kd.R_base ho0) hb); have n4_ := Aside0.mk (Kd.R_elder' z15_ (Kd.R_base ho0) hb); have n5_ := Aside0.mk (Kd.R_elder' z18_ (Kd.R_base ho0) hb); have n6_ := Aside0.mk (Kd.R_elder' z22_ (Kd.R_base ho0) hb); have n7_ := Aside0.mk (Kd.R_lower (Kd.R_newB (Kd.R_new' (Kd.R_new' (Kd.R_new' (Kd.R_new' (Kd.R_new' ho0 (Kd.R_lt z7_)) (Kd.R_lt z12_)) (Kd.R_lt z15_)) (Kd.R_lt z18_)) (Kd.R_lt z22_)) (g := gb161) (o := .cells #[.int .i64 5, .int .i64 1, .int .i64 10, .int .i64 0, .string (⟨#[]⟩ : ByteArray)] 24 (0, 0)) z6_) (below_size z4_)); have n8_ := Aside0.mk (blk_below (g := gb161) (o := .cells #[.int .i64 5, .int .i64 1, .int .i64 10, .int .i64 0, .string (⟨#[]⟩ : ByteArray)] 24 (0, 0)) z6_ hb); have n9_ := Aside0.mk (below_step z4_ hb); clear HO152; clear HO156; clear HO160; clear HO164; clear HO169; clear HO173; clear HO177; clear BK161; clear HB; have HO152 := n0_; have HO156 := n1_; have HO160 := n2_; have HO164 := n3_; have HO169 := n4_; have HO173 := n5_; have HO177 := n6_; have HO181 := n7_; have BK161 := n8_; have HB := n9_; clear n0_ n1_ n2_ n3_ n4_ n5_ n6_ n7_ n8_ n9_; (try clear hb); (try clear hb2); (try clear hk); (try clear hi); (try clear ho0)) | ((with_reducible refine gate_callee (f := 11) rfl ?_); refine goesL_ (some 61) rfl rfl Try.func11 (by kernel_rfl) rfl #[.slice Ao39 t150.length co39, .int .i64 4] rfl z2_ ?_; (with_reducible refine (tree_Find.calls _ _ t150 4 t182 true t184 _ ?side1 ?side2 A9.out).mono ?_); (case side1 => exact z21_); (case side2 => exact z34_); rintro e w49 ⟨rfl, hb⟩; refine ⟨_, rfl, ?_⟩; have n0_ := Aside0.mk (Kd.R_below z7_ hb); have n1_ := Aside0.mk (Kd.R_below z14_ hb); have n2_ := Aside0.mk (Kd.R_below z17_ hb); have n3_ := Aside0.mk (Kd.R_below z12_ hb); have n4_ := Aside0.mk (Kd.R_below z15_ hb); have n5_ := Aside0.mk (Kd.R_below z18_ hb); have n6_ := Aside0.mk (Kd.R_below z22_ hb); have n7_ := Aside0.mk (Kd.R_below z25_ hb); have n8_ := Aside0.mk (blk_below (g := gb161) (o := .cells #[.int .i64 5, .int .i64 1, .int .i64 10, .int .i64 0, .string (⟨#[]⟩ : ByteArray)] 24 (0, 0)) z6_ hb); have n9_ := Aside0.mk (below_step z4_ hb); clear HO152; clear HO156; clear HO160; clear HO164; clear HO169; clear HO173; clear HO177; clear HO181; clear BK161; clear HB; have HO152 := n0_; have HO156 := n1_; have HO160 := n2_; have HO164 := n3_; have HO169 := n4_; have HO173 := n5_; have HO177 := n6_; have HO181 := n7_; have BK161 := n8_; have HB := n9_; clear n0_ n1_ n2_ n3_ n4_ n5_ n6_ n7_ n8_ n9_; (try clear hb); (try clear hb2); (try clear hk); (try clear hi)))
         have n0_ := Aside0.mk (Kd.R_drew HO152.out)
         have n1_ := Aside0.mk (Kd.R_drew HO156.out)
         have n2_ := Aside0.mk (Kd.R_drew HO160.out)
         have n3_ := Aside0.mk (Kd.R_drew HO164.out)
         have n4_ := Aside0.mk (Kd.R_drew HO169.out)
         have n5_ := Aside0.mk (Kd.R_drew HO173.out)
         have n6_ := Aside0.mk (Kd.R_drew HO177.out)
         have n7_ := Aside0.mk (Kd.R_drew HO181.out)
         have n8_ := Aside0.mk (blk_drew BK161.out)
         have n9_ := Aside0.mk (below_drew1 HB.out)
         clear HO152
         clear HO156
         clear HO160
         clear HO164
         clear HO169
         clear HO173
         clear HO177
         clear HO181
         clear BK161
         clear HB
         have HO152 := n0_
         have HO156 := n1_
         have HO160 := n2_
         have HO164 := n3_
         have HO169 := n4_
         have HO173 := n5_
         have HO177 := n6_
         have HO181 := n7_
         have BK161 := n8_
         have HB := n9_
         clear n0_ n1_ n2_ n3_ n4_ n5_ n6_ n7_ n8_ n9_
         have p193 : 0 ≤ (0 : Int) := (by omega)
         have q193 : 0 < (t150.length : Int) := of_decide_eq_true z3_
         obtain ⟨ad193, e193, hx193_0, hx193_1, hx193_2, hx193_3, hx193_4⟩ := at_T24 (Kd.R_reads' HO152.out).2.2 0 p193 q193
         cases e193
         have qi193 : (0 < t150.length) = True := eq_true (by omega)
         (try simp only [show ((0 : Int)).toNat = 0 from rfl, show 0 * 5 = 0 from rfl, Addr.add_zero'] at hx193_0 hx193_1 hx193_2 hx193_3 hx193_4)
         replace p193 := eq_true p193
         replace q193 := eq_true q193
         have p194 : 0 ≤ (1 : Int) := (by omega)
         have q194 : 1 < (t150.length : Int) := of_decide_eq_true z3_
         obtain ⟨ad194, e194, hx194_0, hx194_1, hx194_2, hx194_3, hx194_4⟩ := at_T24 (Kd.R_reads' HO152.out).2.2 1 p194 q194
         obtain rfl : ad193 = ad194 := (by injection e194)
         (try simp only [show (1 : Int).toNat = 1 from rfl, Nat.reduceMul, Nat.reduceEqDiff, Go.Addr.add, ↓reduceIte] at hx194_0)
         (try simp only [show (1 : Int).toNat = 1 from rfl, Nat.reduceMul, Nat.reduceEqDiff, Go.Addr.add, ↓reduceIte] at hx194_1)
         (try simp only [show (1 : Int).toNat = 1 from rfl, Nat.reduceMul, Nat.reduceEqDiff, Go.Addr.add, ↓reduceIte] at hx194_2)
         (try simp only [show (1 : Int).toNat = 1 from rfl, Nat.reduceMul, Nat.reduceEqDiff, Go.Addr.add, ↓reduceIte] at hx194_3)
         (try simp only [show (1 : Int).toNat = 1 from rfl, Nat.reduceMul, Nat.reduceEqDiff, Go.Addr.add, ↓reduceIte] at hx194_4)
         have qi194 : (1 < t150.length) = True := eq_true (by omega)
         (try simp only [show ((1 : Int)).toNat = 1 from rfl, show 1 * 5 = 5 from rfl] at hx194_0 hx194_1 hx194_2 hx194_3 hx194_4)
         replace p194 := eq_true p194
         replace q194 := eq_true q194
         have p195 : 0 ≤ (2 : Int) := (by omega)
         have q195 : 2 < (t150.length : Int) := of_decide_eq_true z3_
         obtain ⟨ad195, e195, hx195_0, hx195_1, hx195_2, hx195_3, hx195_4⟩ := at_T24 (Kd.R_reads' HO152.out).2.2 2 p195 q195
         obtain rfl : ad193 = ad195 := (by injection e195)
         (try simp only [show (2 : Int).toNat = 2 from rfl, Nat.reduceMul, Nat.reduceEqDiff, Go.Addr.add, ↓reduceIte] at hx195_0)
         (try simp only [show (2 : Int).toNat = 2 from rfl, Nat.reduceMul, Nat.reduceEqDiff, Go.Addr.add, ↓reduceIte] at hx195_1)
         (try simp only [show (2 : Int).toNat = 2 from rfl, Nat.reduceMul, Nat.reduceEqDiff, Go.Addr.add, ↓reduceIte] at hx195_2)
         (try simp only [show (2 : Int).toNat = 2 from rfl, Nat.reduceMul, Nat.reduceEqDiff, Go.Addr.add, ↓reduceIte] at hx195_3)
         (try simp only [show (2 : Int).toNat = 2 from rfl, Nat.reduceMul, Nat.reduceEqDiff, Go.Addr.add, ↓reduceIte] at hx195_4)
         have qi195 : (2 < t150.length) = True := eq_true (by omega)
         (try simp only [show ((2 : Int)).toNat = 2 from rfl, show 2 * 5 = 10 from rfl] at hx195_0 hx195_1 hx195_2 hx195_3 hx195_4)
         replace p195 := eq_true p195
         replace q195 := eq_true q195
         have p196 : 0 ≤ (3 : Int) := (by omega)
         have q196 : 3 < (t150.length : Int) := of_decide_eq_true z3_
         obtain ⟨ad196, e196, hx196_0, hx196_1, hx196_2, hx196_3, hx196_4⟩ := at_T24 (Kd.R_reads' HO152.out).2.2 3 p196 q196
         obtain rfl : ad193 = ad196 := (by injection e196)
         (try simp only [show (3 : Int).toNat = 3 from rfl, Nat.reduceMul, Nat.reduceEqDiff, Go.Addr.add, ↓reduceIte] at hx196_0)
         (try simp only [show (3 : Int).toNat = 3 from rfl, Nat.reduceMul, Nat.reduceEqDiff, Go.Addr.add, ↓reduceIte] at hx196_1)
         (try simp only [show (3 : Int).toNat = 3 from rfl, Nat.reduceMul, Nat.reduceEqDiff, Go.Addr.add, ↓reduceIte] at hx196_2)
         (try simp only [show (3 : Int).toNat = 3 from rfl, Nat.reduceMul, Nat.reduceEqDiff, Go.Addr.add, ↓reduceIte] at hx196_3)
         (try simp only [show (3 : Int).toNat = 3 from rfl, Nat.reduceMul, Nat.reduceEqDiff, Go.Addr.add, ↓reduceIte] at hx196_4)
         have qi196 : (3 < t150.length) = True := eq_true (by omega)
         (try simp only [show ((3 : Int)).toNat = 3 from rfl, show 3 * 5 = 15 from rfl] at hx196_0 hx196_1 hx196_2 hx196_3 hx196_4)
         replace p196 := eq_true p196
         replace q196 := eq_true q196
         have p201 : 0 ≤ (0 : Int) := (by omega)
         have q201 : 0 < (t150.length : Int) := of_decide_eq_true z3_
         obtain ⟨ad201, e201, hx201_0, hx201_1, hx201_2, hx201_3, hx201_4⟩ := at_T24 (Kd.R_reads' HO152.out).2.2 0 p201 q201
         obtain rfl : ad193 = ad201 := (by injection e201)
         have qi201 : (0 < t150.length) = True := eq_true (by omega)
         (try simp only [show ((0 : Int)).toNat = 0 from rfl, show 0 * 5 = 0 from rfl, Addr.add_zero'] at hx201_0 hx201_1 hx201_2 hx201_3 hx201_4)
         replace p201 := eq_true p201
         replace q201 := eq_true q201
         have p202 : 0 ≤ (3 : Int) := (by omega)
         have q202 : 3 < (t150.length : Int) := of_decide_eq_true z3_
         obtain ⟨ad202, e202, hx202_0, hx202_1, hx202_2, hx202_3, hx202_4⟩ := at_T24 (Kd.R_reads' HO152.out).2.2 3 p202 q202
         obtain rfl : ad193 = ad202 := (by injection e202)
         (try simp only [show (3 : Int).toNat = 3 from rfl, Nat.reduceMul, Nat.reduceEqDiff, Go.Addr.add, ↓reduceIte] at hx202_0)
         (try simp only [show (3 : Int).toNat = 3 from rfl, Nat.reduceMul, Nat.reduceEqDiff, Go.Addr.add, ↓reduceIte] at hx202_1)
         (try simp only [show (3 : Int).toNat = 3 from rfl, Nat.reduceMul, Nat.reduceEqDiff, Go.Addr.add, ↓reduceIte] at hx202_2)
         (try simp only [show (3 : Int).toNat = 3 from rfl, Nat.reduceMul, Nat.reduceEqDiff, Go.Addr.add, ↓reduceIte] at hx202_3)
         (try simp only [show (3 : Int).toNat = 3 from rfl, Nat.reduceMul, Nat.reduceEqDiff, Go.Addr.add, ↓reduceIte] at hx202_4)
         have qi202 : (3 < t150.length) = True := eq_true (by omega)
         (try simp only [show ((3 : Int)).toNat = 3 from rfl, show 3 * 5 = 15 from rfl] at hx202_0 hx202_1 hx202_2 hx202_3 hx202_4)
         replace p202 := eq_true p202
         replace q202 := eq_true q202
         have p203 : 0 ≤ (1 : Int) := (by omega)
         have q203 : 1 < (t150.length : Int) := of_decide_eq_true z3_
         obtain ⟨ad203, e203, hx203_0, hx203_1, hx203_2, hx203_3, hx203_4⟩ := at_T24 (Kd.R_reads' HO152.out).2.2 1 p203 q203
         obtain rfl : ad193 = ad203 := (by injection e203)
         (try simp only [show (1 : Int).toNat = 1 from rfl, Nat.reduceMul, Nat.reduceEqDiff, Go.Addr.add, ↓reduceIte] at hx203_0)
         (try simp only [show (1 : Int).toNat = 1 from rfl, Nat.reduceMul, Nat.reduceEqDiff, Go.Addr.add, ↓reduceIte] at hx203_1)
         (try simp only [show (1 : Int).toNat = 1 from rfl, Nat.reduceMul, Nat.reduceEqDiff, Go.Addr.add, ↓reduceIte] at hx203_2)
         (try simp only [show (1 : Int).toNat = 1 from rfl, Nat.reduceMul, Nat.reduceEqDiff, Go.Addr.add, ↓reduceIte] at hx203_3)
         (try simp only [show (1 : Int).toNat = 1 from rfl, Nat.reduceMul, Nat.reduceEqDiff, Go.Addr.add, ↓reduceIte] at hx203_4)
         have qi203 : (1 < t150.length) = True := eq_true (by omega)
         (try simp only [show ((1 : Int)).toNat = 1 from rfl, show 1 * 5 = 5 from rfl] at hx203_0 hx203_1 hx203_2 hx203_3 hx203_4)
         replace p203 := eq_true p203
         replace q203 := eq_true q203
         have p204 : 0 ≤ (2 : Int) := (by omega)
         have q204 : 2 < (t150.length : Int) := of_decide_eq_true z3_
         obtain ⟨ad204, e204, hx204_0, hx204_1, hx204_2, hx204_3, hx204_4⟩ := at_T24 (Kd.R_reads' HO152.out).2.2 2 p204 q204
         obtain rfl : ad193 = ad204 := (by injection e204)
         (try simp only [show (2 : Int).toNat = 2 from rfl, Nat.reduceMul, Nat.reduceEqDiff, Go.Addr.add, ↓reduceIte] at hx204_0)
         (try simp only [show (2 : Int).toNat = 2 from rfl, Nat.reduceMul, Nat.reduceEqDiff, Go.Addr.add, ↓reduceIte] at hx204_1)
         (try simp only [show (2 : Int).toNat = 2 from rfl, Nat.reduceMul, Nat.reduceEqDiff, Go.Addr.add, ↓reduceIte] at hx204_2)
         (try simp only [show (2 : Int).toNat = 2 from rfl, Nat.reduceMul, Nat.reduceEqDiff, Go.Addr.add, ↓reduceIte] at hx204_3)
         (try simp only [show (2 : Int).toNat = 2 from rfl, Nat.reduceMul, Nat.reduceEqDiff, Go.Addr.add, ↓reduceIte] at hx204_4)
         have qi204 : (2 < t150.length) = True := eq_true (by omega)
         (try simp only [show ((2 : Int)).toNat = 2 from rfl, show 2 * 5 = 10 from rfl] at hx204_0 hx204_1 hx204_2 hx204_3 hx204_4)
         replace p204 := eq_true p204
         replace q204 := eq_true q204
         refine start_ (n := 47) (S := fun w' => w'.cell? ⟨gb161, 0, none⟩ = some (.int .i64 5) ∧ w'.cell? ⟨gb161, 1, none⟩ = some (.int .i64 1) ∧ w'.cell? ⟨gb161, 2, none⟩ = some (.int .i64 10) ∧ w'.cell? ⟨gb161, 3, none⟩ = some (.int .i64 0) ∧ w'.cell? ⟨gb161, 4, none⟩ = some (.string (⟨#[]⟩ : ByteArray)) ∧ w'.cell? ad193 = some (.int .i64 ((rd_T24 t150 0).f0)) ∧ w'.cell? ⟨ad193.block, ad193.off + 1, none⟩ = some (.int .i64 ((rd_T24 t150 0).f1)) ∧ w'.cell? ⟨ad193.block, ad193.off + 2, none⟩ = some (.int .i64 ((rd_T24 t150 0).f2)) ∧ w'.cell? ⟨ad193.block, ad193.off + 3, none⟩ = some (.int .i64 ((rd_T24 t150 0).f3)) ∧ w'.cell? ⟨ad193.block, ad193.off + 4, none⟩ = some (.string ((rd_T24 t150 0).f4)) ∧ w'.cell? ⟨ad193.block, ad193.off + 5, none⟩ = some (.int .i64 ((rd_T24 t150 1).f0)) ∧ w'.cell? ⟨ad193.block, ad193.off + 5 + 1, none⟩ = some (.int .i64 ((rd_T24 t150 1).f1)) ∧ w'.cell? ⟨ad193.block, ad193.off + 5 + 2, none⟩ = some (.int .i64 ((rd_T24 t150 1).f2)) ∧ w'.cell? ⟨ad193.block, ad193.off + 5 + 3, none⟩ = some (.int .i64 ((rd_T24 t150 1).f3)) ∧ w'.cell? ⟨ad193.block, ad193.off + 5 + 4, none⟩ = some (.string ((rd_T24 t150 1).f4)) ∧ w'.cell? ⟨ad193.block, ad193.off + 10, none⟩ = some (.int .i64 ((rd_T24 t150 2).f0)) ∧ w'.cell? ⟨ad193.block, ad193.off + 10 + 1, none⟩ = some (.int .i64 ((rd_T24 t150 2).f1)) ∧ w'.cell? ⟨ad193.block, ad193.off + 10 + 2, none⟩ = some (.int .i64 ((rd_T24 t150 2).f2)) ∧ w'.cell? ⟨ad193.block, ad193.off + 10 + 3, none⟩ = some (.int .i64 ((rd_T24 t150 2).f3)) ∧ w'.cell? ⟨ad193.block, ad193.off + 10 + 4, none⟩ = some (.string ((rd_T24 t150 2).f4)) ∧ w'.cell? ⟨ad193.block, ad193.off + 15, none⟩ = some (.int .i64 ((rd_T24 t150 3).f0)) ∧ w'.cell? ⟨ad193.block, ad193.off + 15 + 1, none⟩ = some (.int .i64 ((rd_T24 t150 3).f1)) ∧ w'.cell? ⟨ad193.block, ad193.off + 15 + 2, none⟩ = some (.int .i64 ((rd_T24 t150 3).f2)) ∧ w'.cell? ⟨ad193.block, ad193.off + 15 + 3, none⟩ = some (.int .i64 ((rd_T24 t150 3).f3)) ∧ w'.cell? ⟨ad193.block, ad193.off + 15 + 4, none⟩ = some (.string ((rd_T24 t150 3).f4)) ∧ w'.cell? ad193 = some (.int .i64 ((rd_T24 t150 0).f0)) ∧ w'.cell? ⟨ad193.block, ad193.off + 1, none⟩ = some (.int .i64 ((rd_T24 t150 0).f1)) ∧ w'.cell? ⟨ad193.block, ad193.off + 2, none⟩ = some (.int .i64 ((rd_T24 t150 0).f2)) ∧ w'.cell? ⟨ad193.block, ad193.off + 3, none⟩ = some (.int .i64 ((rd_T24 t150 0).f3)) ∧ w'.cell? ⟨ad193.block, ad193.off + 4, none⟩ = some (.string ((rd_T24 t150 0).f4)) ∧ w'.cell? ⟨ad193.block, ad193.off + 15, none⟩ = some (.int .i64 ((rd_T24 t150 3).f0)) ∧ w'.cell? ⟨ad193.block, ad193.off + 15 + 1, none⟩ = some (.int .i64 ((rd_T24 t150 3).f1)) ∧ w'.cell? ⟨ad193.block, ad193.off + 15 + 2, none⟩ = some (.int .i64 ((rd_T24 t150 3).f2)) ∧ w'.cell? ⟨ad193.block, ad193.off + 15 + 3, none⟩ = some (.int .i64 ((rd_T24 t150 3).f3)) ∧ w'.cell? ⟨ad193.block, ad193.off + 15 + 4, none⟩ = some (.string ((rd_T24 t150 3).f4)) ∧ w'.cell? ⟨ad193.block, ad193.off + 5, none⟩ = some (.int .i64 ((rd_T24 t150 1).f0)) ∧ w'.cell? ⟨ad193.block, ad193.off + 5 + 1, none⟩ = some (.int .i64 ((rd_T24 t150 1).f1)) ∧ w'.cell? ⟨ad193.block, ad193.off + 5 + 2, none⟩ = some (.int .i64 ((rd_T24 t150 1).f2)) ∧ w'.cell? ⟨ad193.block, ad193.off + 5 + 3, none⟩ = some (.int .i64 ((rd_T24 t150 1).f3)) ∧ w'.cell? ⟨ad193.block, ad193.off + 5 + 4, none⟩ = some (.string ((rd_T24 t150 1).f4)) ∧ w'.cell? ⟨ad193.block, ad193.off + 10, none⟩ = some (.int .i64 ((rd_T24 t150 2).f0)) ∧ w'.cell? ⟨ad193.block, ad193.off + 10 + 1, none⟩ = some (.int .i64 ((rd_T24 t150 2).f1)) ∧ w'.cell? ⟨ad193.block, ad193.off + 10 + 2, none⟩ = some (.int .i64 ((rd_T24 t150 2).f2)) ∧ w'.cell? ⟨ad193.block, ad193.off + 10 + 3, none⟩ = some (.int .i64 ((rd_T24 t150 2).f3)) ∧ w'.cell? ⟨ad193.block, ad193.off + 10 + 4, none⟩ = some (.string ((rd_T24 t150 2).f4))) (ds := []) #[false, false, false, false, false, false, false, false, false, false, false, false, false, false, false, false, false, false, false, false, false, false, false, false, false, false, false, false, false, false, false, false, false, false, false, false, false, false, false, false, false, false, false, false, false, false, false] (by kernel_rfl) rfl rfl ⟨(blk_cell BK161.out 0).trans rfl, (blk_cell BK161.out 1).trans rfl, (blk_cell BK161.out 2).trans rfl, (blk_cell BK161.out 3).trans rfl, (blk_cell BK161.out 4).trans rfl, hx193_0, hx193_1, hx193_2, hx193_3, hx193_4, hx194_0, hx194_1, hx194_2, hx194_3, hx194_4, hx195_0, hx195_1, hx195_2, hx195_3, hx195_4, hx196_0, hx196_1, hx196_2, hx196_3, hx196_4, hx201_0, hx201_1, hx201_2, hx201_3, hx201_4, hx202_0, hx202_1, hx202_2, hx202_3, hx202_4, hx203_0, hx203_1, hx203_2, hx203_3, hx203_4, hx204_0, hx204_1, hx204_2, hx204_3, hx204_4⟩ (fun hHeld => ?_); refine with_tabW formelaw10_head.tab12 formelaw10_head.bits12 (fun HT_ HW_ => ?_)
         generalize w49.drew = w50 at HO152 HO156 HO160 HO164 HO169 HO173 HO177 HO181 BK161 HB hx193_0 hx193_1 hx193_2 hx193_3 hx193_4 hx194_0 hx194_1 hx194_2 hx194_3 hx194_4 hx195_0 hx195_1 hx195_2 hx195_3 hx195_4 hx196_0 hx196_1 hx196_2 hx196_3 hx196_4 hx201_0 hx201_1 hx201_2 hx201_3 hx201_4 hx202_0 hx202_1 hx202_2 hx202_3 hx202_4 hx203_0 hx203_1 hx203_2 hx203_3 hx203_4 hx204_0 hx204_1 hx204_2 hx204_3 hx204_4 hHeld ⊢
         refine pz_ 0 (some 95) ?_
         refine pz_ 1 (some 96) ?_
         refine pz_ 2 (some 97) ?_
         refine oz_ 3 (some 98) (fun K hK => ?_)
         refine Kd.R_lit_step (Kd.int .i64) _ 3 ?hg (N := 98) ?hd (xs := ([2, 4] : List Int)) (inner := [.int .i64 2, .int .i64 4]) (ok := fun _ => True) (okp := fun _ => True) ?hr ?hp (fun _ hk => hk) trivial (Below.refl _ _) (Nat.le_refl _) (by simp) ?_; (case hd => rfl); (case hg => rfl); (case hr => exact z11_); (case hp => exact (Reps.one (show Kd.M (Kd.int .i64) _ _ _ 2 [.int .i64 2] from rfl) (Reps.one (show Kd.M (Kd.int .i64) _ _ _ 4 [.int .i64 4] from rfl) (Reps.none _ _))))
         intro v186 w51 ho52 hb hg_ hnew_
         have HS5_ := hbc_ hb hHeld.2.2.2.2.2.1
         have HS6_ := hbc_ hb hHeld.2.2.2.2.2.2.1
         have HS7_ := hbc_ hb hHeld.2.2.2.2.2.2.2.1
         have HS8_ := hbc_ hb hHeld.2.2.2.2.2.2.2.2.1
         have HS9_ := hbc_ hb hHeld.2.2.2.2.2.2.2.2.2.1
         have HS10_ := hbc_ hb hHeld.2.2.2.2.2.2.2.2.2.2.1
         have HS11_ := hbc_ hb hHeld.2.2.2.2.2.2.2.2.2.2.2.1
         have HS12_ := hbc_ hb hHeld.2.2.2.2.2.2.2.2.2.2.2.2.1
         have HS13_ := hbc_ hb hHeld.2.2.2.2.2.2.2.2.2.2.2.2.2.1
         have HS14_ := hbc_ hb hHeld.2.2.2.2.2.2.2.2.2.2.2.2.2.2.1
         have HS15_ := hbc_ hb hHeld.2.2.2.2.2.2.2.2.2.2.2.2.2.2.2.1
         have HS16_ := hbc_ hb hHeld.2.2.2.2.2.2.2.2.2.2.2.2.2.2.2.2.1
         have HS17_ := hbc_ hb hHeld.2.2.2.2.2.2.2.2.2.2.2.2.2.2.2.2.2.1
         have HS18_ := hbc_ hb hHeld.2.2.2.2.2.2.2.2.2.2.2.2.2.2.2.2.2.2.1
         have HS19_ := hbc_ hb hHeld.2.2.2.2.2.2.2.2.2.2.2.2.2.2.2.2.2.2.2.1
         have HS20_ := hbc_ hb hHeld.2.2.2.2.2.2.2.2.2.2.2.2.2.2.2.2.2.2.2.2.1
         have HS21_ := hbc_ hb hHeld.2.2.2.2.2.2.2.2.2.2.2.2.2.2.2.2.2.2.2.2.2.1
         have HS22_ := hbc_ hb hHeld.2.2.2.2.2.2.2.2.2.2.2.2.2.2.2.2.2.2.2.2.2.2.1
         have HS23_ := hbc_ hb hHeld.2.2.2.2.2.2.2.2.2.2.2.2.2.2.2.2.2.2.2.2.2.2.2.1
         have HS24_ := hbc_ hb hHeld.2.2.2.2.2.2.2.2.2.2.2.2.2.2.2.2.2.2.2.2.2.2.2.2.1
         have HS25_ := hbc_ hb hHeld.2.2.2.2.2.2.2.2.2.2.2.2.2.2.2.2.2.2.2.2.2.2.2.2.2.1
         have HS26_ := hbc_ hb hHeld.2.2.2.2.2.2.2.2.2.2.2.2.2.2.2.2.2.2.2.2.2.2.2.2.2.2.1
         have HS27_ := hbc_ hb hHeld.2.2.2.2.2.2.2.2.2.2.2.2.2.2.2.2.2.2.2.2.2.2.2.2.2.2.2.1
         have HS28_ := hbc_ hb hHeld.2.2.2.2.2.2.2.2.2.2.2.2.2.2.2.2.2.2.2.2.2.2.2.2.2.2.2.2.1
         have HS29_ := hbc_ hb hHeld.2.2.2.2.2.2.2.2.2.2.2.2.2.2.2.2.2.2.2.2.2.2.2.2.2.2.2.2.2.1
         have HS30_ := hbc_ hb hHeld.2.2.2.2.2.2.2.2.2.2.2.2.2.2.2.2.2.2.2.2.2.2.2.2.2.2.2.2.2.2.1
         have HS31_ := hbc_ hb hHeld.2.2.2.2.2.2.2.2.2.2.2.2.2.2.2.2.2.2.2.2.2.2.2.2.2.2.2.2.2.2.2.1
         have HS32_ := hbc_ hb hHeld.2.2.2.2.2.2.2.2.2.2.2.2.2.2.2.2.2.2.2.2.2.2.2.2.2.2.2.2.2.2.2.2.1
         have HS33_ := hbc_ hb hHeld.2.2.2.2.2.2.2.2.2.2.2.2.2.2.2.2.2.2.2.2.2.2.2.2.2.2.2.2.2.2.2.2.2.1
         have HS34_ := hbc_ hb hHeld.2.2.2.2.2.2.2.2.2.2.2.2.2.2.2.2.2.2.2.2.2.2.2.2.2.2.2.2.2.2.2.2.2.2.1
         have HS35_ := hbc_ hb hHeld.2.2.2.2.2.2.2.2.2.2.2.2.2.2.2.2.2.2.2.2.2.2.2.2.2.2.2.2.2.2.2.2.2.2.2.1
         have HS36_ := hbc_ hb hHeld.2.2.2.2.2.2.2.2.2.2.2.2.2.2.2.2.2.2.2.2.2.2.2.2.2.2.2.2.2.2.2.2.2.2.2.2.1
         have HS37_ := hbc_ hb hHeld.2.2.2.2.2.2.2.2.2.2.2.2.2.2.2.2.2.2.2.2.2.2.2.2.2.2.2.2.2.2.2.2.2.2.2.2.2.1
         have HS38_ := hbc_ hb hHeld.2.2.2.2.2.2.2.2.2.2.2.2.2.2.2.2.2.2.2.2.2.2.2.2.2.2.2.2.2.2.2.2.2.2.2.2.2.2.1
         have HS39_ := hbc_ hb hHeld.2.2.2.2.2.2.2.2.2.2.2.2.2.2.2.2.2.2.2.2.2.2.2.2.2.2.2.2.2.2.2.2.2.2.2.2.2.2.2.1
         have HS40_ := hbc_ hb hHeld.2.2.2.2.2.2.2.2.2.2.2.2.2.2.2.2.2.2.2.2.2.2.2.2.2.2.2.2.2.2.2.2.2.2.2.2.2.2.2.2.1
         have HS41_ := hbc_ hb hHeld.2.2.2.2.2.2.2.2.2.2.2.2.2.2.2.2.2.2.2.2.2.2.2.2.2.2.2.2.2.2.2.2.2.2.2.2.2.2.2.2.2.1
         have HS42_ := hbc_ hb hHeld.2.2.2.2.2.2.2.2.2.2.2.2.2.2.2.2.2.2.2.2.2.2.2.2.2.2.2.2.2.2.2.2.2.2.2.2.2.2.2.2.2.2.1
         have HS43_ := hbc_ hb hHeld.2.2.2.2.2.2.2.2.2.2.2.2.2.2.2.2.2.2.2.2.2.2.2.2.2.2.2.2.2.2.2.2.2.2.2.2.2.2.2.2.2.2.2.1
         have HS44_ := hbc_ hb hHeld.2.2.2.2.2.2.2.2.2.2.2.2.2.2.2.2.2.2.2.2.2.2.2.2.2.2.2.2.2.2.2.2.2.2.2.2.2.2.2.2.2.2.2.2
         clear hg_ hnew_
         (first | rw [← Ny185.out] at ho52 | (simp only [Int.reduceToNat] at ho52; rw [← Ny185.out] at ho52))
         have n0_ := Aside0.mk (Kd.R_below z7_ hb)
         have n1_ := Aside0.mk (Kd.R_elder' z14_ (Kd.R_base ho52) hb)
         have n2_ := Aside0.mk (Kd.R_elder' z17_ (Kd.R_base ho52) hb)
         have n3_ := Aside0.mk (Kd.R_below z12_ hb)
         have n4_ := Aside0.mk (Kd.R_below z15_ hb)
         have n5_ := Aside0.mk (Kd.R_below z18_ hb)
         have n6_ := Aside0.mk (Kd.R_below z22_ hb)
         have n7_ := Aside0.mk (Kd.R_below z25_ hb)
         have n8_ := Aside0.mk (Kd.R_lower (Kd.R_new' (Kd.R_new' ho52 (Kd.R_lt z14_)) (Kd.R_lt z17_)) (below_size z4_))
         have n9_ := Aside0.mk (blk_below (g := gb161) (o := .cells #[.int .i64 5, .int .i64 1, .int .i64 10, .int .i64 0, .string (⟨#[]⟩ : ByteArray)] 24 (0, 0)) z6_ hb)
         have n10_ := Aside0.mk (below_step z4_ hb)
         clear HO152
         clear HO156
         clear HO160
         clear HO164
         clear HO169
         clear HO173
         clear HO177
         clear HO181
         clear BK161
         clear HB
         have HO152 := n0_
         have HO156 := n1_
         have HO160 := n2_
         have HO164 := n3_
         have HO169 := n4_
         have HO173 := n5_
         have HO177 := n6_
         have HO181 := n7_
         have HO187 := n8_
         have BK161 := n9_
         have HB := n10_
         clear n0_ n1_ n2_ n3_ n4_ n5_ n6_ n7_ n8_ n9_ n10_
         clear hb ho52
         obtain ⟨Ao53, co53, eo53⟩ := Kd.R_slice HO156.out
         (first | subst eo53 | (injection eo53 with f1_ f2_ f3_; have f4_ := f1_.symm; have f5_ := f3_.symm; clear f1_ f2_ f3_; subst f4_; subst f5_))
         obtain ⟨Ao54, co54, eo54⟩ := Kd.R_slice HO187.out
         (first | subst eo54 | (injection eo54 with f1_ f2_ f3_; have f4_ := f1_.symm; have f5_ := f3_.symm; clear f1_ f2_ f3_; subst f4_; subst f5_))
         refine hK.out _ _ ⟨(blk_cell BK161.out 0).trans rfl, (blk_cell BK161.out 1).trans rfl, (blk_cell BK161.out 2).trans rfl, (blk_cell BK161.out 3).trans rfl, (blk_cell BK161.out 4).trans rfl, HS5_, HS6_, HS7_, HS8_, HS9_, HS10_, HS11_, HS12_, HS13_, HS14_, HS15_, HS16_, HS17_, HS18_, HS19_, HS20_, HS21_, HS22_, HS23_, HS24_, HS25_, HS26_, HS27_, HS28_, HS29_, HS30_, HS31_, HS32_, HS33_, HS34_, HS35_, HS36_, HS37_, HS38_, HS39_, HS40_, HS41_, HS42_, HS43_, HS44_⟩ (fun hHeld => ?_)
         clear hK K
         refine norm_ (a' := ?_) ?_ ?_
         rotate_left
         ·show Act.put _ (some 98) _ = _
          simp only [Act.put, List.setIfInBounds_toArray, List.set_cons_zero, List.set_cons_succ, i64_w, i32_w]
          rfl
         refine oz_ 4 (some 99) (fun K hK => ?_)
         refine goes_ Try.func17 (by kernel_rfl) rfl #[.slice Ao53 t153.length co53, .slice Ao54 y185.length co54] (by rfl) rfl rfl z2_ ?_
         with_reducible refine (formeref10_SameInts.calls k _ _ t153 _ _ y185 true _ ?side1 ?side2 ?side3 ?side4 A18.out).mono ?_
         (case side1 => repeat (first | exact (Kd.R_reads' HO156.out).2.2 | (with_reducible refine Kd.C_alloc ?_ _) | (with_reducible refine Kd.C_drewN ?_ _) | (with_reducible refine Kd.C_drew ?_)))
         (case side2 => exact (Kd.R_reads' HO156.out).2.1)
         (case side3 => repeat (first | exact (Kd.R_reads' HO187.out).2.2 | (with_reducible refine Kd.C_alloc ?_ _) | (with_reducible refine Kd.C_drewN ?_ _) | (with_reducible refine Kd.C_drew ?_)))
         (case side4 => exact (Kd.R_reads' HO187.out).2.1)
         rintro e w' ⟨rfl, ⟨nd, rfl⟩⟩
         refine ⟨_, rfl, ?_⟩
         refine hK.out _ _ ⟨(blk_cell BK161.out 0).trans rfl, (blk_cell BK161.out 1).trans rfl, (blk_cell BK161.out 2).trans rfl, (blk_cell BK161.out 3).trans rfl, (blk_cell BK161.out 4).trans rfl, hHeld.2.2.2.2.2.1, hHeld.2.2.2.2.2.2.1, hHeld.2.2.2.2.2.2.2.1, hHeld.2.2.2.2.2.2.2.2.1, hHeld.2.2.2.2.2.2.2.2.2.1, hHeld.2.2.2.2.2.2.2.2.2.2.1, hHeld.2.2.2.2.2.2.2.2.2.2.2.1, hHeld.2.2.2.2.2.2.2.2.2.2.2.2.1, hHeld.2.2.2.2.2.2.2.2.2.2.2.2.2.1, hHeld.2.2.2.2.2.2.2.2.2.2.2.2.2.2.1, hHeld.2.2.2.2.2.2.2.2.2.2.2.2.2.2.2.1, hHeld.2.2.2.2.2.2.2.2.2.2.2.2.2.2.2.2.1, hHeld.2.2.2.2.2.2.2.2.2.2.2.2.2.2.2.2.2.1, hHeld.2.2.2.2.2.2.2.2.2.2.2.2.2.2.2.2.2.2.1, hHeld.2.2.2.2.2.2.2.2.2.2.2.2.2.2.2.2.2.2.2.1, hHeld.2.2.2.2.2.2.2.2.2.2.2.2.2.2.2.2.2.2.2.2.1, hHeld.2.2.2.2.2.2.2.2.2.2.2.2.2.2.2.2.2.2.2.2.2.1, hHeld.2.2.2.2.2.2.2.2.2.2.2.2.2.2.2.2.2.2.2.2.2.2.1, hHeld.2.2.2.2.2.2.2.2.2.2.2.2.2.2.2.2.2.2.2.2.2.2.2.1, hHeld.2.2.2.2.2.2.2.2.2.2.2.2.2.2.2.2.2.2.2.2.2.2.2.2.1, hHeld.2.2.2.2.2.2.2.2.2.2.2.2.2.2.2.2.2.2.2.2.2.2.2.2.2.1, hHeld.2.2.2.2.2.2.2.2.2.2.2.2.2.2.2.2.2.2.2.2.2.2.2.2.2.2.1, hHeld.2.2.2.2.2.2.2.2.2.2.2.2.2.2.2.2.2.2.2.2.2.2.2.2.2.2.2.1, hHeld.2.2.2.2.2.2.2.2.2.2.2.2.2.2.2.2.2.2.2.2.2.2.2.2.2.2.2.2.1, hHeld.2.2.2.2.2.2.2.2.2.2.2.2.2.2.2.2.2.2.2.2.2.2.2.2.2.2.2.2.2.1, hHeld.2.2.2.2.2.2.2.2.2.2.2.2.2.2.2.2.2.2.2.2.2.2.2.2.2.2.2.2.2.2.1, hHeld.2.2.2.2.2.2.2.2.2.2.2.2.2.2.2.2.2.2.2.2.2.2.2.2.2.2.2.2.2.2.2.1, hHeld.2.2.2.2.2.2.2.2.2.2.2.2.2.2.2.2.2.2.2.2.2.2.2.2.2.2.2.2.2.2.2.2.1, hHeld.2.2.2.2.2.2.2.2.2.2.2.2.2.2.2.2.2.2.2.2.2.2.2.2.2.2.2.2.2.2.2.2.2.1, hHeld.2.2.2.2.2.2.2.2.2.2.2.2.2.2.2.2.2.2.2.2.2.2.2.2.2.2.2.2.2.2.2.2.2.2.1, hHeld.2.2.2.2.2.2.2.2.2.2.2.2.2.2.2.2.2.2.2.2.2.2.2.2.2.2.2.2.2.2.2.2.2.2.2.1, hHeld.2.2.2.2.2.2.2.2.2.2.2.2.2.2.2.2.2.2.2.2.2.2.2.2.2.2.2.2.2.2.2.2.2.2.2.2.1, hHeld.2.2.2.2.2.2.2.2.2.2.2.2.2.2.2.2.2.2.2.2.2.2.2.2.2.2.2.2.2.2.2.2.2.2.2.2.2.1, hHeld.2.2.2.2.2.2.2.2.2.2.2.2.2.2.2.2.2.2.2.2.2.2.2.2.2.2.2.2.2.2.2.2.2.2.2.2.2.2.1, hHeld.2.2.2.2.2.2.2.2.2.2.2.2.2.2.2.2.2.2.2.2.2.2.2.2.2.2.2.2.2.2.2.2.2.2.2.2.2.2.2.1, hHeld.2.2.2.2.2.2.2.2.2.2.2.2.2.2.2.2.2.2.2.2.2.2.2.2.2.2.2.2.2.2.2.2.2.2.2.2.2.2.2.2.1, hHeld.2.2.2.2.2.2.2.2.2.2.2.2.2.2.2.2.2.2.2.2.2.2.2.2.2.2.2.2.2.2.2.2.2.2.2.2.2.2.2.2.2.1, hHeld.2.2.2.2.2.2.2.2.2.2.2.2.2.2.2.2.2.2.2.2.2.2.2.2.2.2.2.2.2.2.2.2.2.2.2.2.2.2.2.2.2.2.1, hHeld.2.2.2.2.2.2.2.2.2.2.2.2.2.2.2.2.2.2.2.2.2.2.2.2.2.2.2.2.2.2.2.2.2.2.2.2.2.2.2.2.2.2.2.1, hHeld.2.2.2.2.2.2.2.2.2.2.2.2.2.2.2.2.2.2.2.2.2.2.2.2.2.2.2.2.2.2.2.2.2.2.2.2.2.2.2.2.2.2.2.2⟩ (fun hHeld => ?_)
         clear hK K
         refine norm_ (a' := ?_) ?_ ?_
         rotate_left
         ·show Act.put _ (some 99) _ = _
          simp only [Act.put, List.setIfInBounds_toArray, List.set_cons_zero, List.set_cons_succ, i64_w, i32_w]
          rfl
         refine pz_ 5 (some 100) ?_
         refine pz_ 6 (some 101) ?_
         refine pz_ 7 (some 102) ?_
         refine oz_ 8 (some 103) (fun K hK => ?_)
         refine Kd.R_lit_step (Kd.int .i64) _ 3 ?hg (N := 103) ?hd (xs := ([1, 2, 3] : List Int)) (inner := [.int .i64 1, .int .i64 2, .int .i64 3]) (ok := fun _ => True) (okp := fun _ => True) ?hr ?hp (fun _ hk => hk) trivial (Below.refl _ _) (Nat.le_refl _) (by simp) ?_; (case hd => rfl); (case hg => rfl); (case hr => exact z11_); (case hp => exact (Reps.one (show Kd.M (Kd.int .i64) _ _ _ 1 [.int .i64 1] from rfl) (Reps.one (show Kd.M (Kd.int .i64) _ _ _ 2 [.int .i64 2] from rfl) (Reps.one (show Kd.M (Kd.int .i64) _ _ _ 3 [.int .i64 3] from rfl) (Reps.none _ _)))))
         intro v190 w55 ho56 hb hg_ hnew_
         have HS5_ := hbc_ hb hHeld.2.2.2.2.2.1
         have HS6_ := hbc_ hb hHeld.2.2.2.2.2.2.1
         have HS7_ := hbc_ hb hHeld.2.2.2.2.2.2.2.1
         have HS8_ := hbc_ hb hHeld.2.2.2.2.2.2.2.2.1
         have HS9_ := hbc_ hb hHeld.2.2.2.2.2.2.2.2.2.1
         have HS10_ := hbc_ hb hHeld.2.2.2.2.2.2.2.2.2.2.1
         have HS11_ := hbc_ hb hHeld.2.2.2.2.2.2.2.2.2.2.2.1
         have HS12_ := hbc_ hb hHeld.2.2.2.2.2.2.2.2.2.2.2.2.1
         have HS13_ := hbc_ hb hHeld.2.2.2.2.2.2.2.2.2.2.2.2.2.1
         have HS14_ := hbc_ hb hHeld.2.2.2.2.2.2.2.2.2.2.2.2.2.2.1
         have HS15_ := hbc_ hb hHeld.2.2.2.2.2.2.2.2.2.2.2.2.2.2.2.1
         have HS16_ := hbc_ hb hHeld.2.2.2.2.2.2.2.2.2.2.2.2.2.2.2.2.1
         have HS17_ := hbc_ hb hHeld.2.2.2.2.2.2.2.2.2.2.2.2.2.2.2.2.2.1
         have HS18_ := hbc_ hb hHeld.2.2.2.2.2.2.2.2.2.2.2.2.2.2.2.2.2.2.1
         have HS19_ := hbc_ hb hHeld.2.2.2.2.2.2.2.2.2.2.2.2.2.2.2.2.2.2.2.1
         have HS20_ := hbc_ hb hHeld.2.2.2.2.2.2.2.2.2.2.2.2.2.2.2.2.2.2.2.2.1
         have HS21_ := hbc_ hb hHeld.2.2.2.2.2.2.2.2.2.2.2.2.2.2.2.2.2.2.2.2.2.1
         have HS22_ := hbc_ hb hHeld.2.2.2.2.2.2.2.2.2.2.2.2.2.2.2.2.2.2.2.2.2.2.1
         have HS23_ := hbc_ hb hHeld.2.2.2.2.2.2.2.2.2.2.2.2.2.2.2.2.2.2.2.2.2.2.2.1
         have HS24_ := hbc_ hb hHeld.2.2.2.2.2.2.2.2.2.2.2.2.2.2.2.2.2.2.2.2.2.2.2.2.1
         have HS25_ := hbc_ hb hHeld.2.2.2.2.2.2.2.2.2.2.2.2.2.2.2.2.2.2.2.2.2.2.2.2.2.1
         have HS26_ := hbc_ hb hHeld.2.2.2.2.2.2.2.2.2.2.2.2.2.2.2.2.2.2.2.2.2.2.2.2.2.2.1
         have HS27_ := hbc_ hb hHeld.2.2.2.2.2.2.2.2.2.2.2.2.2.2.2.2.2.2.2.2.2.2.2.2.2.2.2.1
         have HS28_ := hbc_ hb hHeld.2.2.2.2.2.2.2.2.2.2.2.2.2.2.2.2.2.2.2.2.2.2.2.2.2.2.2.2.1
         have HS29_ := hbc_ hb hHeld.2.2.2.2.2.2.2.2.2.2.2.2.2.2.2.2.2.2.2.2.2.2.2.2.2.2.2.2.2.1
         have HS30_ := hbc_ hb hHeld.2.2.2.2.2.2.2.2.2.2.2.2.2.2.2.2.2.2.2.2.2.2.2.2.2.2.2.2.2.2.1
         have HS31_ := hbc_ hb hHeld.2.2.2.2.2.2.2.2.2.2.2.2.2.2.2.2.2.2.2.2.2.2.2.2.2.2.2.2.2.2.2.1
         have HS32_ := hbc_ hb hHeld.2.2.2.2.2.2.2.2.2.2.2.2.2.2.2.2.2.2.2.2.2.2.2.2.2.2.2.2.2.2.2.2.1
         have HS33_ := hbc_ hb hHeld.2.2.2.2.2.2.2.2.2.2.2.2.2.2.2.2.2.2.2.2.2.2.2.2.2.2.2.2.2.2.2.2.2.1
         have HS34_ := hbc_ hb hHeld.2.2.2.2.2.2.2.2.2.2.2.2.2.2.2.2.2.2.2.2.2.2.2.2.2.2.2.2.2.2.2.2.2.2.1
         have HS35_ := hbc_ hb hHeld.2.2.2.2.2.2.2.2.2.2.2.2.2.2.2.2.2.2.2.2.2.2.2.2.2.2.2.2.2.2.2.2.2.2.2.1
         have HS36_ := hbc_ hb hHeld.2.2.2.2.2.2.2.2.2.2.2.2.2.2.2.2.2.2.2.2.2.2.2.2.2.2.2.2.2.2.2.2.2.2.2.2.1
         have HS37_ := hbc_ hb hHeld.2.2.2.2.2.2.2.2.2.2.2.2.2.2.2.2.2.2.2.2.2.2.2.2.2.2.2.2.2.2.2.2.2.2.2.2.2.1
         have HS38_ := hbc_ hb hHeld.2.2.2.2.2.2.2.2.2.2.2.2.2.2.2.2.2.2.2.2.2.2.2.2.2.2.2.2.2.2.2.2.2.2.2.2.2.2.1
         have HS39_ := hbc_ hb hHeld.2.2.2.2.2.2.2.2.2.2.2.2.2.2.2.2.2.2.2.2.2.2.2.2.2.2.2.2.2.2.2.2.2.2.2.2.2.2.2.1
         have HS40_ := hbc_ hb hHeld.2.2.2.2.2.2.2.2.2.2.2.2.2.2.2.2.2.2.2.2.2.2.2.2.2.2.2.2.2.2.2.2.2.2.2.2.2.2.2.2.1
         have HS41_ := hbc_ hb hHeld.2.2.2.2.2.2.2.2.2.2.2.2.2.2.2.2.2.2.2.2.2.2.2.2.2.2.2.2.2.2.2.2.2.2.2.2.2.2.2.2.2.1
         have HS42_ := hbc_ hb hHeld.2.2.2.2.2.2.2.2.2.2.2.2.2.2.2.2.2.2.2.2.2.2.2.2.2.2.2.2.2.2.2.2.2.2.2.2.2.2.2.2.2.2.1
         have HS43_ := hbc_ hb hHeld.2.2.2.2.2.2.2.2.2.2.2.2.2.2.2.2.2.2.2.2.2.2.2.2.2.2.2.2.2.2.2.2.2.2.2.2.2.2.2.2.2.2.2.1
         have HS44_ := hbc_ hb hHeld.2.2.2.2.2.2.2.2.2.2.2.2.2.2.2.2.2.2.2.2.2.2.2.2.2.2.2.2.2.2.2.2.2.2.2.2.2.2.2.2.2.2.2.2
         clear hg_ hnew_
         (first | rw [← Ny189.out] at ho56 | (simp only [Int.reduceToNat] at ho56; rw [← Ny189.out] at ho56))
         have n0_ := Aside0.mk (Kd.R_below z7_ hb)
         have n1_ := Aside0.mk (Kd.R_elder' z14_ (Kd.R_base ho56) hb)
         have n2_ := Aside0.mk (Kd.R_elder' z17_ (Kd.R_base ho56) hb)
         have n3_ := Aside0.mk (Kd.R_below z12_ hb)
         have n4_ := Aside0.mk (Kd.R_below z15_ hb)
         have n5_ := Aside0.mk (Kd.R_below z18_ hb)
         have n6_ := Aside0.mk (Kd.R_below z22_ hb)
         have n7_ := Aside0.mk (Kd.R_below z25_ hb)
         have n8_ := Aside0.mk (Kd.R_elder' z28_ (Kd.R_base ho56) hb)
         have n9_ := Aside0.mk (Kd.R_lower (Kd.R_new' (Kd.R_new' (Kd.R_new' ho56 (Kd.R_lt z14_)) (Kd.R_lt z17_)) (Kd.R_lt z28_)) (below_size z4_))
         have n10_ := Aside0.mk (blk_below (g := gb161) (o := .cells #[.int .i64 5, .int .i64 1, .int .i64 10, .int .i64 0, .string (⟨#[]⟩ : ByteArray)] 24 (0, 0)) z6_ hb)
         have n11_ := Aside0.mk (below_step z4_ hb)
         clear HO152
         clear HO156
         clear HO160
         clear HO164
         clear HO169
         clear HO173
         clear HO177
         clear HO181
         clear HO187
         clear BK161
         clear HB
         have HO152 := n0_
         have HO156 := n1_
         have HO160 := n2_
         have HO164 := n3_
         have HO169 := n4_
         have HO173 := n5_
         have HO177 := n6_
         have HO181 := n7_
         have HO187 := n8_
         have HO191 := n9_
         have BK161 := n10_
         have HB := n11_
         clear n0_ n1_ n2_ n3_ n4_ n5_ n6_ n7_ n8_ n9_ n10_ n11_
         clear hb ho56
         obtain ⟨Ao57, co57, eo57⟩ := Kd.R_slice HO160.out
         (first | subst eo57 | (injection eo57 with f1_ f2_ f3_; have f4_ := f1_.symm; have f5_ := f3_.symm; clear f1_ f2_ f3_; subst f4_; subst f5_))
         obtain ⟨Ao58, co58, eo58⟩ := Kd.R_slice HO191.out
         (first | subst eo58 | (injection eo58 with f1_ f2_ f3_; have f4_ := f1_.symm; have f5_ := f3_.symm; clear f1_ f2_ f3_; subst f4_; subst f5_))
         refine hK.out _ _ ⟨(blk_cell BK161.out 0).trans rfl, (blk_cell BK161.out 1).trans rfl, (blk_cell BK161.out 2).trans rfl, (blk_cell BK161.out 3).trans rfl, (blk_cell BK161.out 4).trans rfl, HS5_, HS6_, HS7_, HS8_, HS9_, HS10_, HS11_, HS12_, HS13_, HS14_, HS15_, HS16_, HS17_, HS18_, HS19_, HS20_, HS21_, HS22_, HS23_, HS24_, HS25_, HS26_, HS27_, HS28_, HS29_, HS30_, HS31_, HS32_, HS33_, HS34_, HS35_, HS36_, HS37_, HS38_, HS39_, HS40_, HS41_, HS42_, HS43_, HS44_⟩ (fun hHeld => ?_)
         clear hK K
         refine norm_ (a' := ?_) ?_ ?_
         rotate_left
         ·show Act.put _ (some 103) _ = _
          simp only [Act.put, List.setIfInBounds_toArray, List.set_cons_zero, List.set_cons_succ, i64_w, i32_w]
          rfl
         refine oz_ 9 (some 104) (fun K hK => ?_)
         refine goes_ Try.func17 (by kernel_rfl) rfl #[.slice Ao57 t157.length co57, .slice Ao58 y189.length co58] (by rfl) rfl rfl z2_ ?_
         with_reducible refine (formeref10_SameInts.calls k _ _ t157 _ _ y189 true _ ?side1 ?side2 ?side3 ?side4 A20.out).mono ?_
         (case side1 => repeat (first | exact (Kd.R_reads' HO160.out).2.2 | (with_reducible refine Kd.C_alloc ?_ _) | (with_reducible refine Kd.C_drewN ?_ _) | (with_reducible refine Kd.C_drew ?_)))
         (case side2 => exact (Kd.R_reads' HO160.out).2.1)
         (case side3 => repeat (first | exact (Kd.R_reads' HO191.out).2.2 | (with_reducible refine Kd.C_alloc ?_ _) | (with_reducible refine Kd.C_drewN ?_ _) | (with_reducible refine Kd.C_drew ?_)))
         (case side4 => exact (Kd.R_reads' HO191.out).2.1)
         rintro e w' ⟨rfl, ⟨nd, rfl⟩⟩
         refine ⟨_, rfl, ?_⟩
         refine hK.out _ _ ⟨(blk_cell BK161.out 0).trans rfl, (blk_cell BK161.out 1).trans rfl, (blk_cell BK161.out 2).trans rfl, (blk_cell BK161.out 3).trans rfl, (blk_cell BK161.out 4).trans rfl, hHeld.2.2.2.2.2.1, hHeld.2.2.2.2.2.2.1, hHeld.2.2.2.2.2.2.2.1, hHeld.2.2.2.2.2.2.2.2.1, hHeld.2.2.2.2.2.2.2.2.2.1, hHeld.2.2.2.2.2.2.2.2.2.2.1, hHeld.2.2.2.2.2.2.2.2.2.2.2.1, hHeld.2.2.2.2.2.2.2.2.2.2.2.2.1, hHeld.2.2.2.2.2.2.2.2.2.2.2.2.2.1, hHeld.2.2.2.2.2.2.2.2.2.2.2.2.2.2.1, hHeld.2.2.2.2.2.2.2.2.2.2.2.2.2.2.2.1, hHeld.2.2.2.2.2.2.2.2.2.2.2.2.2.2.2.2.1, hHeld.2.2.2.2.2.2.2.2.2.2.2.2.2.2.2.2.2.1, hHeld.2.2.2.2.2.2.2.2.2.2.2.2.2.2.2.2.2.2.1, hHeld.2.2.2.2.2.2.2.2.2.2.2.2.2.2.2.2.2.2.2.1, hHeld.2.2.2.2.2.2.2.2.2.2.2.2.2.2.2.2.2.2.2.2.1, hHeld.2.2.2.2.2.2.2.2.2.2.2.2.2.2.2.2.2.2.2.2.2.1, hHeld.2.2.2.2.2.2.2.2.2.2.2.2.2.2.2.2.2.2.2.2.2.2.1, hHeld.2.2.2.2.2.2.2.2.2.2.2.2.2.2.2.2.2.2.2.2.2.2.2.1, hHeld.2.2.2.2.2.2.2.2.2.2.2.2.2.2.2.2.2.2.2.2.2.2.2.2.1, hHeld.2.2.2.2.2.2.2.2.2.2.2.2.2.2.2.2.2.2.2.2.2.2.2.2.2.1, hHeld.2.2.2.2.2.2.2.2.2.2.2.2.2.2.2.2.2.2.2.2.2.2.2.2.2.2.1, hHeld.2.2.2.2.2.2.2.2.2.2.2.2.2.2.2.2.2.2.2.2.2.2.2.2.2.2.2.1, hHeld.2.2.2.2.2.2.2.2.2.2.2.2.2.2.2.2.2.2.2.2.2.2.2.2.2.2.2.2.1, hHeld.2.2.2.2.2.2.2.2.2.2.2.2.2.2.2.2.2.2.2.2.2.2.2.2.2.2.2.2.2.1, hHeld.2.2.2.2.2.2.2.2.2.2.2.2.2.2.2.2.2.2.2.2.2.2.2.2.2.2.2.2.2.2.1, hHeld.2.2.2.2.2.2.2.2.2.2.2.2.2.2.2.2.2.2.2.2.2.2.2.2.2.2.2.2.2.2.2.1, hHeld.2.2.2.2.2.2.2.2.2.2.2.2.2.2.2.2.2.2.2.2.2.2.2.2.2.2.2.2.2.2.2.2.1, hHeld.2.2.2.2.2.2.2.2.2.2.2.2.2.2.2.2.2.2.2.2.2.2.2.2.2.2.2.2.2.2.2.2.2.1, hHeld.2.2.2.2.2.2.2.2.2.2.2.2.2.2.2.2.2.2.2.2.2.2.2.2.2.2.2.2.2.2.2.2.2.2.1, hHeld.2.2.2.2.2.2.2.2.2.2.2.2.2.2.2.2.2.2.2.2.2.2.2.2.2.2.2.2.2.2.2.2.2.2.2.1, hHeld.2.2.2.2.2.2.2.2.2.2.2.2.2.2.2.2.2.2.2.2.2.2.2.2.2.2.2.2.2.2.2.2.2.2.2.2.1, hHeld.2.2.2.2.2.2.2.2.2.2.2.2.2.2.2.2.2.2.2.2.2.2.2.2.2.2.2.2.2.2.2.2.2.2.2.2.2.1, hHeld.2.2.2.2.2.2.2.2.2.2.2.2.2.2.2.2.2.2.2.2.2.2.2.2.2.2.2.2.2.2.2.2.2.2.2.2.2.2.1, hHeld.2.2.2.2.2.2.2.2.2.2.2.2.2.2.2.2.2.2.2.2.2.2.2.2.2.2.2.2.2.2.2.2.2.2.2.2.2.2.2.1, hHeld.2.2.2.2.2.2.2.2.2.2.2.2.2.2.2.2.2.2.2.2.2.2.2.2.2.2.2.2.2.2.2.2.2.2.2.2.2.2.2.2.1, hHeld.2.2.2.2.2.2.2.2.2.2.2.2.2.2.2.2.2.2.2.2.2.2.2.2.2.2.2.2.2.2.2.2.2.2.2.2.2.2.2.2.2.1, hHeld.2.2.2.2.2.2.2.2.2.2.2.2.2.2.2.2.2.2.2.2.2.2.2.2.2.2.2.2.2.2.2.2.2.2.2.2.2.2.2.2.2.2.1, hHeld.2.2.2.2.2.2.2.2.2.2.2.2.2.2.2.2.2.2.2.2.2.2.2.2.2.2.2.2.2.2.2.2.2.2.2.2.2.2.2.2.2.2.2.1, hHeld.2.2.2.2.2.2.2.2.2.2.2.2.2.2.2.2.2.2.2.2.2.2.2.2.2.2.2.2.2.2.2.2.2.2.2.2.2.2.2.2.2.2.2.2⟩ (fun hHeld => ?_)
         clear hK K
         refine norm_ (a' := ?_) ?_ ?_
         rotate_left
         ·show Act.put _ (some 104) _ = _
          simp only [Act.put, List.setIfInBounds_toArray, List.set_cons_zero, List.set_cons_succ, i64_w, i32_w]
          rfl
         refine pz_ 10 (some 105) ?_
         refine pz_ 11 (some 106) ?_
         refine pz_ 12 (some 107) ?_
         refine pz_ 13 (some 108) ?_
         refine pz_ 14 (some 109) ?_
         refine pz_ 16 (some 111) ?_
         refine pz_ 17 (some 112) ?_
         refine pz_ 19 (some 114) ?_
         refine pz_ 20 (some 115) ?_
         refine pz_ 23 (some 118) ?_
         refine pz_ 24 (some 119) ?_
         refine tz_ 15 (some 110) hHeld ?_
         refine tz_ 18 (some 113) hHeld ?_
         refine tz_ 21 (some 116) hHeld ?_
         refine tz_ 22 (some 117) hHeld ?_
         refine tz_ 25 (some 120) hHeld ?_
         refine oz_ 26 (some 121) (fun K hK => ?_)
         refine Kd.R_lit_step k24 _ 24 ?hg (N := 121) ?hd (xs := ([(⟨(rd_T24 t150 0).f0, (rd_T24 t150 0).f1, (rd_T24 t150 0).f2, (rd_T24 t150 0).f3, (rd_T24 t150 0).f4⟩ : S24), (⟨(rd_T24 t150 1).f0, (rd_T24 t150 1).f1, (rd_T24 t150 1).f2, (rd_T24 t150 1).f3, (rd_T24 t150 1).f4⟩ : S24), (⟨(rd_T24 t150 2).f0, (rd_T24 t150 2).f1, (rd_T24 t150 2).f2, (rd_T24 t150 2).f3, (rd_T24 t150 2).f4⟩ : S24), (⟨5, 1, 10, 0, (⟨#[]⟩ : ByteArray)⟩ : S24), (⟨(rd_T24 t150 3).f0, (rd_T24 t150 3).f1, (rd_T24 t150 3).f2, (rd_T24 t150 3).f3, (rd_T24 t150 3).f4⟩ : S24)] : List (S24))) (inner := [.int .i64 ((rd_T24 t150 0).f0), .int .i64 ((rd_T24 t150 0).f1), .int .i64 ((rd_T24 t150 0).f2), .int .i64 ((rd_T24 t150 0).f3), .string ((rd_T24 t150 0).f4), .int .i64 ((rd_T24 t150 1).f0), .int .i64 ((rd_T24 t150 1).f1), .int .i64 ((rd_T24 t150 1).f2), .int .i64 ((rd_T24 t150 1).f3), .string ((rd_T24 t150 1).f4), .int .i64 ((rd_T24 t150 2).f0), .int .i64 ((rd_T24 t150 2).f1), .int .i64 ((rd_T24 t150 2).f2), .int .i64 ((rd_T24 t150 2).f3), .string ((rd_T24 t150 2).f4), .int .i64 5, .int .i64 1, .int .i64 10, .int .i64 0, .string (⟨#[]⟩ : ByteArray), .int .i64 ((rd_T24 t150 3).f0), .int .i64 ((rd_T24 t150 3).f1), .int .i64 ((rd_T24 t150 3).f2), .int .i64 ((rd_T24 t150 3).f3), .string ((rd_T24 t150 3).f4)]) (ok := fun _ => True) (okp := fun _ => True) ?hr ?hp (fun _ hk => hk) trivial (Below.refl _ _) (Nat.le_refl _) (by simp) ?_; (case hd => rfl); (case hg => rfl); (case hr => exact z11_); (case hp => exact (Reps.c5 (show Kd.M k24 _ _ _ (⟨(rd_T24 t150 0).f0, (rd_T24 t150 0).f1, (rd_T24 t150 0).f2, (rd_T24 t150 0).f3, (rd_T24 t150 0).f4⟩ : S24) [.int .i64 ((rd_T24 t150 0).f0), .int .i64 ((rd_T24 t150 0).f1), .int .i64 ((rd_T24 t150 0).f2), .int .i64 ((rd_T24 t150 0).f3), .string ((rd_T24 t150 0).f4)] from (k24_mkM _ _ _ (⟨(rd_T24 t150 0).f0, (rd_T24 t150 0).f1, (rd_T24 t150 0).f2, (rd_T24 t150 0).f3, (rd_T24 t150 0).f4⟩ : S24) )) (Reps.c5 (show Kd.M k24 _ _ _ (⟨(rd_T24 t150 1).f0, (rd_T24 t150 1).f1, (rd_T24 t150 1).f2, (rd_T24 t150 1).f3, (rd_T24 t150 1).f4⟩ : S24) [.int .i64 ((rd_T24 t150 1).f0), .int .i64 ((rd_T24 t150 1).f1), .int .i64 ((rd_T24 t150 1).f2), .int .i64 ((rd_T24 t150 1).f3), .string ((rd_T24 t150 1).f4)] from (k24_mkM _ _ _ (⟨(rd_T24 t150 1).f0, (rd_T24 t150 1).f1, (rd_T24 t150 1).f2, (rd_T24 t150 1).f3, (rd_T24 t150 1).f4⟩ : S24) )) (Reps.c5 (show Kd.M k24 _ _ _ (⟨(rd_T24 t150 2).f0, (rd_T24 t150 2).f1, (rd_T24 t150 2).f2, (rd_T24 t150 2).f3, (rd_T24 t150 2).f4⟩ : S24) [.int .i64 ((rd_T24 t150 2).f0), .int .i64 ((rd_T24 t150 2).f1), .int .i64 ((rd_T24 t150 2).f2), .int .i64 ((rd_T24 t150 2).f3), .string ((rd_T24 t150 2).f4)] from (k24_mkM _ _ _ (⟨(rd_T24 t150 2).f0, (rd_T24 t150 2).f1, (rd_T24 t150 2).f2, (rd_T24 t150 2).f3, (rd_T24 t150 2).f4⟩ : S24) )) (Reps.c5 (show Kd.M k24 _ _ _ (⟨5, 1, 10, 0, (⟨#[]⟩ : ByteArray)⟩ : S24) [.int .i64 5, .int .i64 1, .int .i64 10, .int .i64 0, .string (⟨#[]⟩ : ByteArray)] from (k24_mkM _ _ _ (⟨5, 1, 10, 0, (⟨#[]⟩ : ByteArray)⟩ : S24) )) (Reps.c5 (show Kd.M k24 _ _ _ (⟨(rd_T24 t150 3).f0, (rd_T24 t150 3).f1, (rd_T24 t150 3).f2, (rd_T24 t150 3).f3, (rd_T24 t150 3).f4⟩ : S24) [.int .i64 ((rd_T24 t150 3).f0), .int .i64 ((rd_T24 t150 3).f1), .int .i64 ((rd_T24 t150 3).f2), .int .i64 ((rd_T24 t150 3).f3), .string ((rd_T24 t150 3).f4)] from (k24_mkM _ _ _ (⟨(rd_T24 t150 3).f0, (rd_T24 t150 3).f1, (rd_T24 t150 3).f2, (rd_T24 t150 3).f3, (rd_T24 t150 3).f4⟩ : S24) )) (Reps.none _ _)))))))
         intro v198 w59 ho60 hb hg_ hnew_
         have HS5_ := hbc_ hb hHeld.2.2.2.2.2.1
         have HS6_ := hbc_ hb hHeld.2.2.2.2.2.2.1
         have HS7_ := hbc_ hb hHeld.2.2.2.2.2.2.2.1
         have HS8_ := hbc_ hb hHeld.2.2.2.2.2.2.2.2.1
         have HS9_ := hbc_ hb hHeld.2.2.2.2.2.2.2.2.2.1
         have HS10_ := hbc_ hb hHeld.2.2.2.2.2.2.2.2.2.2.1
         have HS11_ := hbc_ hb hHeld.2.2.2.2.2.2.2.2.2.2.2.1
         have HS12_ := hbc_ hb hHeld.2.2.2.2.2.2.2.2.2.2.2.2.1
         have HS13_ := hbc_ hb hHeld.2.2.2.2.2.2.2.2.2.2.2.2.2.1
         have HS14_ := hbc_ hb hHeld.2.2.2.2.2.2.2.2.2.2.2.2.2.2.1
         have HS15_ := hbc_ hb hHeld.2.2.2.2.2.2.2.2.2.2.2.2.2.2.2.1
         have HS16_ := hbc_ hb hHeld.2.2.2.2.2.2.2.2.2.2.2.2.2.2.2.2.1
         have HS17_ := hbc_ hb hHeld.2.2.2.2.2.2.2.2.2.2.2.2.2.2.2.2.2.1
         have HS18_ := hbc_ hb hHeld.2.2.2.2.2.2.2.2.2.2.2.2.2.2.2.2.2.2.1
         have HS19_ := hbc_ hb hHeld.2.2.2.2.2.2.2.2.2.2.2.2.2.2.2.2.2.2.2.1
         have HS20_ := hbc_ hb hHeld.2.2.2.2.2.2.2.2.2.2.2.2.2.2.2.2.2.2.2.2.1
         have HS21_ := hbc_ hb hHeld.2.2.2.2.2.2.2.2.2.2.2.2.2.2.2.2.2.2.2.2.2.1
         have HS22_ := hbc_ hb hHeld.2.2.2.2.2.2.2.2.2.2.2.2.2.2.2.2.2.2.2.2.2.2.1
         have HS23_ := hbc_ hb hHeld.2.2.2.2.2.2.2.2.2.2.2.2.2.2.2.2.2.2.2.2.2.2.2.1
         have HS24_ := hbc_ hb hHeld.2.2.2.2.2.2.2.2.2.2.2.2.2.2.2.2.2.2.2.2.2.2.2.2.1
         have HS25_ := hbc_ hb hHeld.2.2.2.2.2.2.2.2.2.2.2.2.2.2.2.2.2.2.2.2.2.2.2.2.2.1
         have HS26_ := hbc_ hb hHeld.2.2.2.2.2.2.2.2.2.2.2.2.2.2.2.2.2.2.2.2.2.2.2.2.2.2.1
         have HS27_ := hbc_ hb hHeld.2.2.2.2.2.2.2.2.2.2.2.2.2.2.2.2.2.2.2.2.2.2.2.2.2.2.2.1
         have HS28_ := hbc_ hb hHeld.2.2.2.2.2.2.2.2.2.2.2.2.2.2.2.2.2.2.2.2.2.2.2.2.2.2.2.2.1
         have HS29_ := hbc_ hb hHeld.2.2.2.2.2.2.2.2.2.2.2.2.2.2.2.2.2.2.2.2.2.2.2.2.2.2.2.2.2.1
         have HS30_ := hbc_ hb hHeld.2.2.2.2.2.2.2.2.2.2.2.2.2.2.2.2.2.2.2.2.2.2.2.2.2.2.2.2.2.2.1
         have HS31_ := hbc_ hb hHeld.2.2.2.2.2.2.2.2.2.2.2.2.2.2.2.2.2.2.2.2.2.2.2.2.2.2.2.2.2.2.2.1
         have HS32_ := hbc_ hb hHeld.2.2.2.2.2.2.2.2.2.2.2.2.2.2.2.2.2.2.2.2.2.2.2.2.2.2.2.2.2.2.2.2.1
         have HS33_ := hbc_ hb hHeld.2.2.2.2.2.2.2.2.2.2.2.2.2.2.2.2.2.2.2.2.2.2.2.2.2.2.2.2.2.2.2.2.2.1
         have HS34_ := hbc_ hb hHeld.2.2.2.2.2.2.2.2.2.2.2.2.2.2.2.2.2.2.2.2.2.2.2.2.2.2.2.2.2.2.2.2.2.2.1
         have HS35_ := hbc_ hb hHeld.2.2.2.2.2.2.2.2.2.2.2.2.2.2.2.2.2.2.2.2.2.2.2.2.2.2.2.2.2.2.2.2.2.2.2.1
         have HS36_ := hbc_ hb hHeld.2.2.2.2.2.2.2.2.2.2.2.2.2.2.2.2.2.2.2.2.2.2.2.2.2.2.2.2.2.2.2.2.2.2.2.2.1
         have HS37_ := hbc_ hb hHeld.2.2.2.2.2.2.2.2.2.2.2.2.2.2.2.2.2.2.2.2.2.2.2.2.2.2.2.2.2.2.2.2.2.2.2.2.2.1
         have HS38_ := hbc_ hb hHeld.2.2.2.2.2.2.2.2.2.2.2.2.2.2.2.2.2.2.2.2.2.2.2.2.2.2.2.2.2.2.2.2.2.2.2.2.2.2.1
         have HS39_ := hbc_ hb hHeld.2.2.2.2.2.2.2.2.2.2.2.2.2.2.2.2.2.2.2.2.2.2.2.2.2.2.2.2.2.2.2.2.2.2.2.2.2.2.2.1
         have HS40_ := hbc_ hb hHeld.2.2.2.2.2.2.2.2.2.2.2.2.2.2.2.2.2.2.2.2.2.2.2.2.2.2.2.2.2.2.2.2.2.2.2.2.2.2.2.2.1
         have HS41_ := hbc_ hb hHeld.2.2.2.2.2.2.2.2.2.2.2.2.2.2.2.2.2.2.2.2.2.2.2.2.2.2.2.2.2.2.2.2.2.2.2.2.2.2.2.2.2.1
         have HS42_ := hbc_ hb hHeld.2.2.2.2.2.2.2.2.2.2.2.2.2.2.2.2.2.2.2.2.2.2.2.2.2.2.2.2.2.2.2.2.2.2.2.2.2.2.2.2.2.2.1
         have HS43_ := hbc_ hb hHeld.2.2.2.2.2.2.2.2.2.2.2.2.2.2.2.2.2.2.2.2.2.2.2.2.2.2.2.2.2.2.2.2.2.2.2.2.2.2.2.2.2.2.2.1
         have HS44_ := hbc_ hb hHeld.2.2.2.2.2.2.2.2.2.2.2.2.2.2.2.2.2.2.2.2.2.2.2.2.2.2.2.2.2.2.2.2.2.2.2.2.2.2.2.2.2.2.2.2
         clear hg_ hnew_
         (first | rw [← Ny197.out] at ho60 | (simp only [Int.reduceToNat] at ho60; rw [← Ny197.out] at ho60))
         have n0_ := Aside0.mk (Kd.R_elder' z7_ (Kd.R_base ho60) hb)
         have n1_ := Aside0.mk (Kd.R_below z14_ hb)
         have n2_ := Aside0.mk (Kd.R_below z17_ hb)
         have n3_ := Aside0.mk (Kd.R_elder' z12_ (Kd.R_base ho60) hb)
         have n4_ := Aside0.mk (Kd.R_elder' z15_ (Kd.R_base ho60) hb)
         have n5_ := Aside0.mk (Kd.R_elder' z18_ (Kd.R_base ho60) hb)
         have n6_ := Aside0.mk (Kd.R_elder' z22_ (Kd.R_base ho60) hb)
         have n7_ := Aside0.mk (Kd.R_elder' z25_ (Kd.R_base ho60) hb)
         have n8_ := Aside0.mk (Kd.R_below z28_ hb)
         have n9_ := Aside0.mk (Kd.R_below z31_ hb)
         have n10_ := Aside0.mk (Kd.R_lower (Kd.R_newB (Kd.R_new' (Kd.R_new' (Kd.R_new' (Kd.R_new' (Kd.R_new' (Kd.R_new' ho60 (Kd.R_lt z7_)) (Kd.R_lt z12_)) (Kd.R_lt z15_)) (Kd.R_lt z18_)) (Kd.R_lt z22_)) (Kd.R_lt z25_)) (g := gb161) (o := .cells #[.int .i64 5, .int .i64 1, .int .i64 10, .int .i64 0, .string (⟨#[]⟩ : ByteArray)] 24 (0, 0)) z6_) (below_size z4_))
         have n11_ := Aside0.mk (blk_below (g := gb161) (o := .cells #[.int .i64 5, .int .i64 1, .int .i64 10, .int .i64 0, .string (⟨#[]⟩ : ByteArray)] 24 (0, 0)) z6_ hb)
         have n12_ := Aside0.mk (below_step z4_ hb)
         clear HO152
         clear HO156
         clear HO160
         clear HO164
         clear HO169
         clear HO173
         clear HO177
         clear HO181
         clear HO187
         clear HO191
         clear BK161
         clear HB
         have HO152 := n0_
         have HO156 := n1_
         have HO160 := n2_
         have HO164 := n3_
         have HO169 := n4_
         have HO173 := n5_
         have HO177 := n6_
         have HO181 := n7_
         have HO187 := n8_
         have HO191 := n9_
         have HO199 := n10_
         have BK161 := n11_
         have HB := n12_
         clear n0_ n1_ n2_ n3_ n4_ n5_ n6_ n7_ n8_ n9_ n10_ n11_ n12_
         clear hb ho60
         obtain ⟨Ao61, co61, eo61⟩ := Kd.R_slice HO164.out
         (first | subst eo61 | (injection eo61 with f1_ f2_ f3_; have f4_ := f1_.symm; have f5_ := f3_.symm; clear f1_ f2_ f3_; subst f4_; subst f5_))
         obtain ⟨Ao62, co62, eo62⟩ := Kd.R_slice HO199.out
         (first | subst eo62 | (injection eo62 with f1_ f2_ f3_; have f4_ := f1_.symm; have f5_ := f3_.symm; clear f1_ f2_ f3_; subst f4_; subst f5_))
         refine hK.out _ _ ⟨(blk_cell BK161.out 0).trans rfl, (blk_cell BK161.out 1).trans rfl, (blk_cell BK161.out 2).trans rfl, (blk_cell BK161.out 3).trans rfl, (blk_cell BK161.out 4).trans rfl, HS5_, HS6_, HS7_, HS8_, HS9_, HS10_, HS11_, HS12_, HS13_, HS14_, HS15_, HS16_, HS17_, HS18_, HS19_, HS20_, HS21_, HS22_, HS23_, HS24_, HS25_, HS26_, HS27_, HS28_, HS29_, HS30_, HS31_, HS32_, HS33_, HS34_, HS35_, HS36_, HS37_, HS38_, HS39_, HS40_, HS41_, HS42_, HS43_, HS44_⟩ (fun hHeld => ?_)
         clear hK K
         refine norm_ (a' := ?_) ?_ ?_
         rotate_left
         ·show Act.put _ (some 121) _ = _
          simp only [Act.put, List.setIfInBounds_toArray, List.set_cons_zero, List.set_cons_succ, i64_w, i32_w]
          rfl
         refine oz_ 27 (some 122) (fun K hK => ?_)
         refine goes_ Try.func22 (by kernel_rfl) rfl #[.slice Ao61 t162.length co61, .slice Ao62 y197.length co62] (by rfl) rfl rfl z2_ ?_
         with_reducible refine (formeref10_Same.calls k _ _ t162 _ _ y197 true _ ?side1 ?side2 ?side3 ?side4 A26.out).mono ?_
         (case side1 => repeat (first | exact (Kd.R_reads' HO164.out).2.2 | (with_reducible refine Kd.C_alloc ?_ _) | (with_reducible refine Kd.C_drewN ?_ _) | (with_reducible refine Kd.C_drew ?_)))
         (case side2 => exact (Kd.R_reads' HO164.out).2.1)
         (case side3 => repeat (first | exact (Kd.R_reads' HO199.out).2.2 | (with_reducible refine Kd.C_alloc ?_ _) | (with_reducible refine Kd.C_drewN ?_ _) | (with_reducible refine Kd.C_drew ?_)))
         (case side4 => exact (Kd.R_reads' HO199.out).2.1)
         rintro e w' ⟨rfl, ⟨nd, rfl⟩⟩
         refine ⟨_, rfl, ?_⟩
         refine hK.out _ _ ⟨(blk_cell BK161.out 0).trans rfl, (blk_cell BK161.out 1).trans rfl, (blk_cell BK161.out 2).trans rfl, (blk_cell BK161.out 3).trans rfl, (blk_cell BK161.out 4).trans rfl, hHeld.2.2.2.2.2.1, hHeld.2.2.2.2.2.2.1, hHeld.2.2.2.2.2.2.2.1, hHeld.2.2.2.2.2.2.2.2.1, hHeld.2.2.2.2.2.2.2.2.2.1, hHeld.2.2.2.2.2.2.2.2.2.2.1, hHeld.2.2.2.2.2.2.2.2.2.2.2.1, hHeld.2.2.2.2.2.2.2.2.2.2.2.2.1, hHeld.2.2.2.2.2.2.2.2.2.2.2.2.2.1, hHeld.2.2.2.2.2.2.2.2.2.2.2.2.2.2.1, hHeld.2.2.2.2.2.2.2.2.2.2.2.2.2.2.2.1, hHeld.2.2.2.2.2.2.2.2.2.2.2.2.2.2.2.2.1, hHeld.2.2.2.2.2.2.2.2.2.2.2.2.2.2.2.2.2.1, hHeld.2.2.2.2.2.2.2.2.2.2.2.2.2.2.2.2.2.2.1, hHeld.2.2.2.2.2.2.2.2.2.2.2.2.2.2.2.2.2.2.2.1, hHeld.2.2.2.2.2.2.2.2.2.2.2.2.2.2.2.2.2.2.2.2.1, hHeld.2.2.2.2.2.2.2.2.2.2.2.2.2.2.2.2.2.2.2.2.2.1, hHeld.2.2.2.2.2.2.2.2.2.2.2.2.2.2.2.2.2.2.2.2.2.2.1, hHeld.2.2.2.2.2.2.2.2.2.2.2.2.2.2.2.2.2.2.2.2.2.2.2.1, hHeld.2.2.2.2.2.2.2.2.2.2.2.2.2.2.2.2.2.2.2.2.2.2.2.2.1, hHeld.2.2.2.2.2.2.2.2.2.2.2.2.2.2.2.2.2.2.2.2.2.2.2.2.2.1, hHeld.2.2.2.2.2.2.2.2.2.2.2.2.2.2.2.2.2.2.2.2.2.2.2.2.2.2.1, hHeld.2.2.2.2.2.2.2.2.2.2.2.2.2.2.2.2.2.2.2.2.2.2.2.2.2.2.2.1, hHeld.2.2.2.2.2.2.2.2.2.2.2.2.2.2.2.2.2.2.2.2.2.2.2.2.2.2.2.2.1, hHeld.2.2.2.2.2.2.2.2.2.2.2.2.2.2.2.2.2.2.2.2.2.2.2.2.2.2.2.2.2.1, hHeld.2.2.2.2.2.2.2.2.2.2.2.2.2.2.2.2.2.2.2.2.2.2.2.2.2.2.2.2.2.2.1, hHeld.2.2.2.2.2.2.2.2.2.2.2.2.2.2.2.2.2.2.2.2.2.2.2.2.2.2.2.2.2.2.2.1, hHeld.2.2.2.2.2.2.2.2.2.2.2.2.2.2.2.2.2.2.2.2.2.2.2.2.2.2.2.2.2.2.2.2.1, hHeld.2.2.2.2.2.2.2.2.2.2.2.2.2.2.2.2.2.2.2.2.2.2.2.2.2.2.2.2.2.2.2.2.2.1, hHeld.2.2.2.2.2.2.2.2.2.2.2.2.2.2.2.2.2.2.2.2.2.2.2.2.2.2.2.2.2.2.2.2.2.2.1, hHeld.2.2.2.2.2.2.2.2.2.2.2.2.2.2.2.2.2.2.2.2.2.2.2.2.2.2.2.2.2.2.2.2.2.2.2.1, hHeld.2.2.2.2.2.2.2.2.2.2.2.2.2.2.2.2.2.2.2.2.2.2.2.2.2.2.2.2.2.2.2.2.2.2.2.2.1, hHeld.2.2.2.2.2.2.2.2.2.2.2.2.2.2.2.2.2.2.2.2.2.2.2.2.2.2.2.2.2.2.2.2.2.2.2.2.2.1, hHeld.2.2.2.2.2.2.2.2.2.2.2.2.2.2.2.2.2.2.2.2.2.2.2.2.2.2.2.2.2.2.2.2.2.2.2.2.2.2.1, hHeld.2.2.2.2.2.2.2.2.2.2.2.2.2.2.2.2.2.2.2.2.2.2.2.2.2.2.2.2.2.2.2.2.2.2.2.2.2.2.2.1, hHeld.2.2.2.2.2.2.2.2.2.2.2.2.2.2.2.2.2.2.2.2.2.2.2.2.2.2.2.2.2.2.2.2.2.2.2.2.2.2.2.2.1, hHeld.2.2.2.2.2.2.2.2.2.2.2.2.2.2.2.2.2.2.2.2.2.2.2.2.2.2.2.2.2.2.2.2.2.2.2.2.2.2.2.2.2.1, hHeld.2.2.2.2.2.2.2.2.2.2.2.2.2.2.2.2.2.2.2.2.2.2.2.2.2.2.2.2.2.2.2.2.2.2.2.2.2.2.2.2.2.2.1, hHeld.2.2.2.2.2.2.2.2.2.2.2.2.2.2.2.2.2.2.2.2.2.2.2.2.2.2.2.2.2.2.2.2.2.2.2.2.2.2.2.2.2.2.2.1, hHeld.2.2.2.2.2.2.2.2.2.2.2.2.2.2.2.2.2.2.2.2.2.2.2.2.2.2.2.2.2.2.2.2.2.2.2.2.2.2.2.2.2.2.2.2⟩ (fun hHeld => ?_)
         clear hK K
         refine norm_ (a' := ?_) ?_ ?_
         rotate_left
         ·show Act.put _ (some 122) _ = _
          simp only [Act.put, List.setIfInBounds_toArray, List.set_cons_zero, List.set_cons_succ, i64_w, i32_w]
          rfl
         refine pz_ 28 (some 123) ?_
         refine pz_ 29 (some 124) ?_
         refine pz_ 30 (some 125) ?_
         refine pz_ 31 (some 126) ?_
         refine pz_ 32 (some 127) ?_
         refine pz_ 34 (some 129) ?_
         refine pz_ 35 (some 130) ?_
         refine pz_ 37 (some 132) ?_
         refine pz_ 38 (some 133) ?_
         refine pz_ 40 (some 135) ?_
         refine pz_ 41 (some 136) ?_
         refine tz_ 33 (some 128) hHeld ?_
         refine tz_ 36 (some 131) hHeld ?_
         refine tz_ 39 (some 134) hHeld ?_
         refine tz_ 42 (some 137) hHeld ?_
         refine oz_ 43 (some 138) (fun K hK => ?_)
         refine Kd.R_lit_step k24 _ 24 ?hg (N := 138) ?hd (xs := ([(⟨(rd_T24 t150 0).f0, (rd_T24 t150 0).f1, (rd_T24 t150 0).f2, (rd_T24 t150 0).f3, (rd_T24 t150 0).f4⟩ : S24), (⟨(rd_T24 t150 3).f0, (rd_T24 t150 3).f1, (rd_T24 t150 3).f2, (rd_T24 t150 3).f3, (rd_T24 t150 3).f4⟩ : S24), (⟨(rd_T24 t150 1).f0, (rd_T24 t150 1).f1, (rd_T24 t150 1).f2, (rd_T24 t150 1).f3, (rd_T24 t150 1).f4⟩ : S24), (⟨(rd_T24 t150 2).f0, (rd_T24 t150 2).f1, (rd_T24 t150 2).f2, (rd_T24 t150 2).f3, (rd_T24 t150 2).f4⟩ : S24)] : List (S24))) (inner := [.int .i64 ((rd_T24 t150 0).f0), .int .i64 ((rd_T24 t150 0).f1), .int .i64 ((rd_T24 t150 0).f2), .int .i64 ((rd_T24 t150 0).f3), .string ((rd_T24 t150 0).f4), .int .i64 ((rd_T24 t150 3).f0), .int .i64 ((rd_T24 t150 3).f1), .int .i64 ((rd_T24 t150 3).f2), .int .i64 ((rd_T24 t150 3).f3), .string ((rd_T24 t150 3).f4), .int .i64 ((rd_T24 t150 1).f0), .int .i64 ((rd_T24 t150 1).f1), .int .i64 ((rd_T24 t150 1).f2), .int .i64 ((rd_T24 t150 1).f3), .string ((rd_T24 t150 1).f4), .int .i64 ((rd_T24 t150 2).f0), .int .i64 ((rd_T24 t150 2).f1), .int .i64 ((rd_T24 t150 2).f2), .int .i64 ((rd_T24 t150 2).f3), .string ((rd_T24 t150 2).f4)]) (ok := fun _ => True) (okp := fun _ => True) ?hr ?hp (fun _ hk => hk) trivial (Below.refl _ _) (Nat.le_refl _) (by simp) ?_; (case hd => rfl); (case hg => rfl); (case hr => exact z11_); (case hp => exact (Reps.c5 (show Kd.M k24 _ _ _ (⟨(rd_T24 t150 0).f0, (rd_T24 t150 0).f1, (rd_T24 t150 0).f2, (rd_T24 t150 0).f3, (rd_T24 t150 0).f4⟩ : S24) [.int .i64 ((rd_T24 t150 0).f0), .int .i64 ((rd_T24 t150 0).f1), .int .i64 ((rd_T24 t150 0).f2), .int .i64 ((rd_T24 t150 0).f3), .string ((rd_T24 t150 0).f4)] from (k24_mkM _ _ _ (⟨(rd_T24 t150 0).f0, (rd_T24 t150 0).f1, (rd_T24 t150 0).f2, (rd_T24 t150 0).f3, (rd_T24 t150 0).f4⟩ : S24) )) (Reps.c5 (show Kd.M k24 _ _ _ (⟨(rd_T24 t150 3).f0, (rd_T24 t150 3).f1, (rd_T24 t150 3).f2, (rd_T24 t150 3).f3, (rd_T24 t150 3).f4⟩ : S24) [.int .i64 ((rd_T24 t150 3).f0), .int .i64 ((rd_T24 t150 3).f1), .int .i64 ((rd_T24 t150 3).f2), .int .i64 ((rd_T24 t150 3).f3), .string ((rd_T24 t150 3).f4)] from (k24_mkM _ _ _ (⟨(rd_T24 t150 3).f0, (rd_T24 t150 3).f1, (rd_T24 t150 3).f2, (rd_T24 t150 3).f3, (rd_T24 t150 3).f4⟩ : S24) )) (Reps.c5 (show Kd.M k24 _ _ _ (⟨(rd_T24 t150 1).f0, (rd_T24 t150 1).f1, (rd_T24 t150 1).f2, (rd_T24 t150 1).f3, (rd_T24 t150 1).f4⟩ : S24) [.int .i64 ((rd_T24 t150 1).f0), .int .i64 ((rd_T24 t150 1).f1), .int .i64 ((rd_T24 t150 1).f2), .int .i64 ((rd_T24 t150 1).f3), .string ((rd_T24 t150 1).f4)] from (k24_mkM _ _ _ (⟨(rd_T24 t150 1).f0, (rd_T24 t150 1).f1, (rd_T24 t150 1).f2, (rd_T24 t150 1).f3, (rd_T24 t150 1).f4⟩ : S24) )) (Reps.c5 (show Kd.M k24 _ _ _ (⟨(rd_T24 t150 2).f0, (rd_T24 t150 2).f1, (rd_T24 t150 2).f2, (rd_T24 t150 2).f3, (rd_T24 t150 2).f4⟩ : S24) [.int .i64 ((rd_T24 t150 2).f0), .int .i64 ((rd_T24 t150 2).f1), .int .i64 ((rd_T24 t150 2).f2), .int .i64 ((rd_T24 t150 2).f3), .string ((rd_T24 t150 2).f4)] from (k24_mkM _ _ _ (⟨(rd_T24 t150 2).f0, (rd_T24 t150 2).f1, (rd_T24 t150 2).f2, (rd_T24 t150 2).f3, (rd_T24 t150 2).f4⟩ : S24) )) (Reps.none _ _))))))
         intro v206 w63 ho64 hb hg_ hnew_
         have HS5_ := hbc_ hb hHeld.2.2.2.2.2.1
         have HS6_ := hbc_ hb hHeld.2.2.2.2.2.2.1
         have HS7_ := hbc_ hb hHeld.2.2.2.2.2.2.2.1
         have HS8_ := hbc_ hb hHeld.2.2.2.2.2.2.2.2.1
         have HS9_ := hbc_ hb hHeld.2.2.2.2.2.2.2.2.2.1
         have HS10_ := hbc_ hb hHeld.2.2.2.2.2.2.2.2.2.2.1
         have HS11_ := hbc_ hb hHeld.2.2.2.2.2.2.2.2.2.2.2.1
         have HS12_ := hbc_ hb hHeld.2.2.2.2.2.2.2.2.2.2.2.2.1
         have HS13_ := hbc_ hb hHeld.2.2.2.2.2.2.2.2.2.2.2.2.2.1
         have HS14_ := hbc_ hb hHeld.2.2.2.2.2.2.2.2.2.2.2.2.2.2.1
         have HS15_ := hbc_ hb hHeld.2.2.2.2.2.2.2.2.2.2.2.2.2.2.2.1
         have HS16_ := hbc_ hb hHeld.2.2.2.2.2.2.2.2.2.2.2.2.2.2.2.2.1
         have HS17_ := hbc_ hb hHeld.2.2.2.2.2.2.2.2.2.2.2.2.2.2.2.2.2.1
         have HS18_ := hbc_ hb hHeld.2.2.2.2.2.2.2.2.2.2.2.2.2.2.2.2.2.2.1
         have HS19_ := hbc_ hb hHeld.2.2.2.2.2.2.2.2.2.2.2.2.2.2.2.2.2.2.2.1
         have HS20_ := hbc_ hb hHeld.2.2.2.2.2.2.2.2.2.2.2.2.2.2.2.2.2.2.2.2.1
         have HS21_ := hbc_ hb hHeld.2.2.2.2.2.2.2.2.2.2.2.2.2.2.2.2.2.2.2.2.2.1
         have HS22_ := hbc_ hb hHeld.2.2.2.2.2.2.2.2.2.2.2.2.2.2.2.2.2.2.2.2.2.2.1
         have HS23_ := hbc_ hb hHeld.2.2.2.2.2.2.2.2.2.2.2.2.2.2.2.2.2.2.2.2.2.2.2.1
         have HS24_ := hbc_ hb hHeld.2.2.2.2.2.2.2.2.2.2.2.2.2.2.2.2.2.2.2.2.2.2.2.2.1
         have HS25_ := hbc_ hb hHeld.2.2.2.2.2.2.2.2.2.2.2.2.2.2.2.2.2.2.2.2.2.2.2.2.2.1
         have HS26_ := hbc_ hb hHeld.2.2.2.2.2.2.2.2.2.2.2.2.2.2.2.2.2.2.2.2.2.2.2.2.2.2.1
         have HS27_ := hbc_ hb hHeld.2.2.2.2.2.2.2.2.2.2.2.2.2.2.2.2.2.2.2.2.2.2.2.2.2.2.2.1
         have HS28_ := hbc_ hb hHeld.2.2.2.2.2.2.2.2.2.2.2.2.2.2.2.2.2.2.2.2.2.2.2.2.2.2.2.2.1
         have HS29_ := hbc_ hb hHeld.2.2.2.2.2.2.2.2.2.2.2.2.2.2.2.2.2.2.2.2.2.2.2.2.2.2.2.2.2.1
         have HS30_ := hbc_ hb hHeld.2.2.2.2.2.2.2.2.2.2.2.2.2.2.2.2.2.2.2.2.2.2.2.2.2.2.2.2.2.2.1
         have HS31_ := hbc_ hb hHeld.2.2.2.2.2.2.2.2.2.2.2.2.2.2.2.2.2.2.2.2.2.2.2.2.2.2.2.2.2.2.2.1
         have HS32_ := hbc_ hb hHeld.2.2.2.2.2.2.2.2.2.2.2.2.2.2.2.2.2.2.2.2.2.2.2.2.2.2.2.2.2.2.2.2.1
         have HS33_ := hbc_ hb hHeld.2.2.2.2.2.2.2.2.2.2.2.2.2.2.2.2.2.2.2.2.2.2.2.2.2.2.2.2.2.2.2.2.2.1
         have HS34_ := hbc_ hb hHeld.2.2.2.2.2.2.2.2.2.2.2.2.2.2.2.2.2.2.2.2.2.2.2.2.2.2.2.2.2.2.2.2.2.2.1
         have HS35_ := hbc_ hb hHeld.2.2.2.2.2.2.2.2.2.2.2.2.2.2.2.2.2.2.2.2.2.2.2.2.2.2.2.2.2.2.2.2.2.2.2.1
         have HS36_ := hbc_ hb hHeld.2.2.2.2.2.2.2.2.2.2.2.2.2.2.2.2.2.2.2.2.2.2.2.2.2.2.2.2.2.2.2.2.2.2.2.2.1
         have HS37_ := hbc_ hb hHeld.2.2.2.2.2.2.2.2.2.2.2.2.2.2.2.2.2.2.2.2.2.2.2.2.2.2.2.2.2.2.2.2.2.2.2.2.2.1
         have HS38_ := hbc_ hb hHeld.2.2.2.2.2.2.2.2.2.2.2.2.2.2.2.2.2.2.2.2.2.2.2.2.2.2.2.2.2.2.2.2.2.2.2.2.2.2.1
         have HS39_ := hbc_ hb hHeld.2.2.2.2.2.2.2.2.2.2.2.2.2.2.2.2.2.2.2.2.2.2.2.2.2.2.2.2.2.2.2.2.2.2.2.2.2.2.2.1
         have HS40_ := hbc_ hb hHeld.2.2.2.2.2.2.2.2.2.2.2.2.2.2.2.2.2.2.2.2.2.2.2.2.2.2.2.2.2.2.2.2.2.2.2.2.2.2.2.2.1
         have HS41_ := hbc_ hb hHeld.2.2.2.2.2.2.2.2.2.2.2.2.2.2.2.2.2.2.2.2.2.2.2.2.2.2.2.2.2.2.2.2.2.2.2.2.2.2.2.2.2.1
         have HS42_ := hbc_ hb hHeld.2.2.2.2.2.2.2.2.2.2.2.2.2.2.2.2.2.2.2.2.2.2.2.2.2.2.2.2.2.2.2.2.2.2.2.2.2.2.2.2.2.2.1
         have HS43_ := hbc_ hb hHeld.2.2.2.2.2.2.2.2.2.2.2.2.2.2.2.2.2.2.2.2.2.2.2.2.2.2.2.2.2.2.2.2.2.2.2.2.2.2.2.2.2.2.2.1
         have HS44_ := hbc_ hb hHeld.2.2.2.2.2.2.2.2.2.2.2.2.2.2.2.2.2.2.2.2.2.2.2.2.2.2.2.2.2.2.2.2.2.2.2.2.2.2.2.2.2.2.2.2
         clear hg_ hnew_
         (first | rw [← Ny205.out] at ho64 | (simp only [Int.reduceToNat] at ho64; rw [← Ny205.out] at ho64))
         have n0_ := Aside0.mk (Kd.R_elder' z7_ (Kd.R_base ho64) hb)
         have n1_ := Aside0.mk (Kd.R_below z14_ hb)
         have n2_ := Aside0.mk (Kd.R_below z17_ hb)
         have n3_ := Aside0.mk (Kd.R_elder' z12_ (Kd.R_base ho64) hb)
         have n4_ := Aside0.mk (Kd.R_elder' z15_ (Kd.R_base ho64) hb)
         have n5_ := Aside0.mk (Kd.R_elder' z18_ (Kd.R_base ho64) hb)
         have n6_ := Aside0.mk (Kd.R_elder' z22_ (Kd.R_base ho64) hb)
         have n7_ := Aside0.mk (Kd.R_elder' z25_ (Kd.R_base ho64) hb)
         have n8_ := Aside0.mk (Kd.R_below z28_ hb)
         have n9_ := Aside0.mk (Kd.R_below z31_ hb)
         have n10_ := Aside0.mk (Kd.R_elder' z30_ (Kd.R_base ho64) hb)
         have n11_ := Aside0.mk (Kd.R_lower (Kd.R_newB (Kd.R_new' (Kd.R_new' (Kd.R_new' (Kd.R_new' (Kd.R_new' (Kd.R_new' (Kd.R_new' ho64 (Kd.R_lt z7_)) (Kd.R_lt z12_)) (Kd.R_lt z15_)) (Kd.R_lt z18_)) (Kd.R_lt z22_)) (Kd.R_lt z25_)) (Kd.R_lt z30_)) (g := gb161) (o := .cells #[.int .i64 5, .int .i64 1, .int .i64 10, .int .i64 0, .string (⟨#[]⟩ : ByteArray)] 24 (0, 0)) z6_) (below_size z4_))
         have n12_ := Aside0.mk (blk_below (g := gb161) (o := .cells #[.int .i64 5, .int .i64 1, .int .i64 10, .int .i64 0, .string (⟨#[]⟩ : ByteArray)] 24 (0, 0)) z6_ hb)
         have n13_ := Aside0.mk (below_step z4_ hb)
         clear HO152
         clear HO156
         clear HO160
         clear HO164
         clear HO169
         clear HO173
         clear HO177
         clear HO181
         clear HO187
         clear HO191
         clear HO199
         clear BK161
         clear HB
         have HO152 := n0_
         have HO156 := n1_
         have HO160 := n2_
         have HO164 := n3_
         have HO169 := n4_
         have HO173 := n5_
         have HO177 := n6_
         have HO181 := n7_
         have HO187 := n8_
         have HO191 := n9_
         have HO199 := n10_
         have HO207 := n11_
         have BK161 := n12_
         have HB := n13_
         clear n0_ n1_ n2_ n3_ n4_ n5_ n6_ n7_ n8_ n9_ n10_ n11_ n12_ n13_
         clear hb ho64
         obtain ⟨Ao65, co65, eo65⟩ := Kd.R_slice HO169.out
         (first | subst eo65 | (injection eo65 with f1_ f2_ f3_; have f4_ := f1_.symm; have f5_ := f3_.symm; clear f1_ f2_ f3_; subst f4_; subst f5_))
         obtain ⟨Ao66, co66, eo66⟩ := Kd.R_slice HO207.out
         (first | subst eo66 | (injection eo66 with f1_ f2_ f3_; have f4_ := f1_.symm; have f5_ := f3_.symm; clear f1_ f2_ f3_; subst f4_; subst f5_))
         refine hK.out _ _ ⟨(blk_cell BK161.out 0).trans rfl, (blk_cell BK161.out 1).trans rfl, (blk_cell BK161.out 2).trans rfl, (blk_cell BK161.out 3).trans rfl, (blk_cell BK161.out 4).trans rfl, HS5_, HS6_, HS7_, HS8_, HS9_, HS10_, HS11_, HS12_, HS13_, HS14_, HS15_, HS16_, HS17_, HS18_, HS19_, HS20_, HS21_, HS22_, HS23_, HS24_, HS25_, HS26_, HS27_, HS28_, HS29_, HS30_, HS31_, HS32_, HS33_, HS34_, HS35_, HS36_, HS37_, HS38_, HS39_, HS40_, HS41_, HS42_, HS43_, HS44_⟩ (fun hHeld => ?_)
         clear hK K
         refine norm_ (a' := ?_) ?_ ?_
         rotate_left
         ·show Act.put _ (some 138) _ = _
          simp only [Act.put, List.setIfInBounds_toArray, List.set_cons_zero, List.set_cons_succ, i64_w, i32_w]
          rfl
         refine oz_ 44 (some 139) (fun K hK => ?_)
         refine goes_ Try.func22 (by kernel_rfl) rfl #[.slice Ao65 t166.length co65, .slice Ao66 y205.length co66] (by rfl) rfl rfl z2_ ?_
         with_reducible refine (formeref10_Same.calls k _ _ t166 _ _ y205 true _ ?side1 ?side2 ?side3 ?side4 A28.out).mono ?_
         (case side1 => repeat (first | exact (Kd.R_reads' HO169.out).2.2 | (with_reducible refine Kd.C_alloc ?_ _) | (with_reducible refine Kd.C_drewN ?_ _) | (with_reducible refine Kd.C_drew ?_)))
         (case side2 => exact (Kd.R_reads' HO169.out).2.1)
         (case side3 => repeat (first | exact (Kd.R_reads' HO207.out).2.2 | (with_reducible refine Kd.C_alloc ?_ _) | (with_reducible refine Kd.C_drewN ?_ _) | (with_reducible refine Kd.C_drew ?_)))
         (case side4 => exact (Kd.R_reads' HO207.out).2.1)
         rintro e w' ⟨rfl, ⟨nd, rfl⟩⟩
         refine ⟨_, rfl, ?_⟩
         refine hK.out _ _ ⟨(blk_cell BK161.out 0).trans rfl, (blk_cell BK161.out 1).trans rfl, (blk_cell BK161.out 2).trans rfl, (blk_cell BK161.out 3).trans rfl, (blk_cell BK161.out 4).trans rfl, hHeld.2.2.2.2.2.1, hHeld.2.2.2.2.2.2.1, hHeld.2.2.2.2.2.2.2.1, hHeld.2.2.2.2.2.2.2.2.1, hHeld.2.2.2.2.2.2.2.2.2.1, hHeld.2.2.2.2.2.2.2.2.2.2.1, hHeld.2.2.2.2.2.2.2.2.2.2.2.1, hHeld.2.2.2.2.2.2.2.2.2.2.2.2.1, hHeld.2.2.2.2.2.2.2.2.2.2.2.2.2.1, hHeld.2.2.2.2.2.2.2.2.2.2.2.2.2.2.1, hHeld.2.2.2.2.2.2.2.2.2.2.2.2.2.2.2.1, hHeld.2.2.2.2.2.2.2.2.2.2.2.2.2.2.2.2.1, hHeld.2.2.2.2.2.2.2.2.2.2.2.2.2.2.2.2.2.1, hHeld.2.2.2.2.2.2.2.2.2.2.2.2.2.2.2.2.2.2.1, hHeld.2.2.2.2.2.2.2.2.2.2.2.2.2.2.2.2.2.2.2.1, hHeld.2.2.2.2.2.2.2.2.2.2.2.2.2.2.2.2.2.2.2.2.1, hHeld.2.2.2.2.2.2.2.2.2.2.2.2.2.2.2.2.2.2.2.2.2.1, hHeld.2.2.2.2.2.2.2.2.2.2.2.2.2.2.2.2.2.2.2.2.2.2.1, hHeld.2.2.2.2.2.2.2.2.2.2.2.2.2.2.2.2.2.2.2.2.2.2.2.1, hHeld.2.2.2.2.2.2.2.2.2.2.2.2.2.2.2.2.2.2.2.2.2.2.2.2.1, hHeld.2.2.2.2.2.2.2.2.2.2.2.2.2.2.2.2.2.2.2.2.2.2.2.2.2.1, hHeld.2.2.2.2.2.2.2.2.2.2.2.2.2.2.2.2.2.2.2.2.2.2.2.2.2.2.1, hHeld.2.2.2.2.2.2.2.2.2.2.2.2.2.2.2.2.2.2.2.2.2.2.2.2.2.2.2.1, hHeld.2.2.2.2.2.2.2.2.2.2.2.2.2.2.2.2.2.2.2.2.2.2.2.2.2.2.2.2.1, hHeld.2.2.2.2.2.2.2.2.2.2.2.2.2.2.2.2.2.2.2.2.2.2.2.2.2.2.2.2.2.1, hHeld.2.2.2.2.2.2.2.2.2.2.2.2.2.2.2.2.2.2.2.2.2.2.2.2.2.2.2.2.2.2.1, hHeld.2.2.2.2.2.2.2.2.2.2.2.2.2.2.2.2.2.2.2.2.2.2.2.2.2.2.2.2.2.2.2.1, hHeld.2.2.2.2.2.2.2.2.2.2.2.2.2.2.2.2.2.2.2.2.2.2.2.2.2.2.2.2.2.2.2.2.1, hHeld.2.2.2.2.2.2.2.2.2.2.2.2.2.2.2.2.2.2.2.2.2.2.2.2.2.2.2.2.2.2.2.2.2.1, hHeld.2.2.2.2.2.2.2.2.2.2.2.2.2.2.2.2.2.2.2.2.2.2.2.2.2.2.2.2.2.2.2.2.2.2.1, hHeld.2.2.2.2.2.2.2.2.2.2.2.2.2.2.2.2.2.2.2.2.2.2.2.2.2.2.2.2.2.2.2.2.2.2.2.1, hHeld.2.2.2.2.2.2.2.2.2.2.2.2.2.2.2.2.2.2.2.2.2.2.2.2.2.2.2.2.2.2.2.2.2.2.2.2.1, hHeld.2.2.2.2.2.2.2.2.2.2.2.2.2.2.2.2.2.2.2.2.2.2.2.2.2.2.2.2.2.2.2.2.2.2.2.2.2.1, hHeld.2.2.2.2.2.2.2.2.2.2.2.2.2.2.2.2.2.2.2.2.2.2.2.2.2.2.2.2.2.2.2.2.2.2.2.2.2.2.1, hHeld.2.2.2.2.2.2.2.2.2.2.2.2.2.2.2.2.2.2.2.2.2.2.2.2.2.2.2.2.2.2.2.2.2.2.2.2.2.2.2.1, hHeld.2.2.2.2.2.2.2.2.2.2.2.2.2.2.2.2.2.2.2.2.2.2.2.2.2.2.2.2.2.2.2.2.2.2.2.2.2.2.2.2.1, hHeld.2.2.2.2.2.2.2.2.2.2.2.2.2.2.2.2.2.2.2.2.2.2.2.2.2.2.2.2.2.2.2.2.2.2.2.2.2.2.2.2.2.1, hHeld.2.2.2.2.2.2.2.2.2.2.2.2.2.2.2.2.2.2.2.2.2.2.2.2.2.2.2.2.2.2.2.2.2.2.2.2.2.2.2.2.2.2.1, hHeld.2.2.2.2.2.2.2.2.2.2.2.2.2.2.2.2.2.2.2.2.2.2.2.2.2.2.2.2.2.2.2.2.2.2.2.2.2.2.2.2.2.2.2.1, hHeld.2.2.2.2.2.2.2.2.2.2.2.2.2.2.2.2.2.2.2.2.2.2.2.2.2.2.2.2.2.2.2.2.2.2.2.2.2.2.2.2.2.2.2.2⟩ (fun hHeld => ?_)
         clear hK K
         refine norm_ (a' := ?_) ?_ ?_
         rotate_left
         ·show Act.put _ (some 139) _ = _
          simp only [Act.put, List.setIfInBounds_toArray, List.set_cons_zero, List.set_cons_succ, i64_w, i32_w]
          rfl
         refine pz_ 45 (some 140) ?_
         refine pz_ 46 (some 20) ?_
         refine done_ (done_of HT_.out (by kernel_rfl)) ?_
         try go_wp2
         (try (rw [drewN_self w63]; generalize hq_ : World.drewN w63 _ = w63; have n0_ : Aside0 (Kd.R k24 24 w63 w.heap.size (fun k_ => some k_ ≠ (.slice Ao61 t162.length co61 : Value).ownBlock ∧ some k_ ≠ (.slice Ao65 t166.length co65 : Value).ownBlock ∧ some k_ ≠ (v172 : Value).ownBlock ∧ some k_ ≠ (v176 : Value).ownBlock ∧ some k_ ≠ (v180 : Value).ownBlock ∧ some k_ ≠ (.slice Ao62 y197.length co62 : Value).ownBlock ∧ some k_ ≠ (.slice Ao66 y205.length co66 : Value).ownBlock ∧ k_ ≠ gb161) (.slice (some ad193) t150.length co39) t150) := ⟨by rw [← hq_]; exact (by (with_reducible repeat (first | apply Kd.R_alloc | apply Kd.R_drewN | apply Kd.R_drew)); exact Kd.R_mono HO152.out (fun _ hk => ⟨hk.1.1.1.1.1.1.2, ⟨hk.1.1.1.1.1.2, ⟨hk.1.1.1.1.2, ⟨hk.1.1.1.2, ⟨hk.1.1.2, ⟨hk.1.2, ⟨hk.2, hk.1.1.1.1.1.1.1.2⟩⟩⟩⟩⟩⟩⟩))⟩; have n1_ : Aside0 (Kd.R (Kd.int .i64) 3 w63 w.heap.size (fun k_ => some k_ ≠ (.slice Ao57 t157.length co57 : Value).ownBlock ∧ some k_ ≠ (.slice Ao54 y185.length co54 : Value).ownBlock ∧ some k_ ≠ (.slice Ao58 y189.length co58 : Value).ownBlock) (.slice Ao53 t153.length co53) t153) := ⟨by rw [← hq_]; exact (by (with_reducible repeat (first | apply Kd.R_alloc | apply Kd.R_drewN | apply Kd.R_drew)); exact Kd.R_mono HO156.out (fun _ hk => ⟨hk.1.1.2, ⟨hk.1.2, hk.2⟩⟩))⟩; have n2_ : Aside0 (Kd.R (Kd.int .i64) 3 w63 w.heap.size (fun k_ => some k_ ≠ (.slice Ao53 t153.length co53 : Value).ownBlock ∧ some k_ ≠ (.slice Ao54 y185.length co54 : Value).ownBlock ∧ some k_ ≠ (.slice Ao58 y189.length co58 : Value).ownBlock) (.slice Ao57 t157.length co57) t157) := ⟨by rw [← hq_]; exact (by (with_reducible repeat (first | apply Kd.R_alloc | apply Kd.R_drewN | apply Kd.R_drew)); exact Kd.R_mono HO160.out (fun _ hk => ⟨hk.1.1.2, ⟨hk.1.2, hk.2⟩⟩))⟩; have n3_ : Aside0 (Kd.R k24 24 w63 w.heap.size (fun k_ => some k_ ≠ (.slice (some ad193) t150.length co39 : Value).ownBlock ∧ some k_ ≠ (.slice Ao65 t166.length co65 : Value).ownBlock ∧ some k_ ≠ (v172 : Value).ownBlock ∧ some k_ ≠ (v176 : Value).ownBlock ∧ some k_ ≠ (v180 : Value).ownBlock ∧ some k_ ≠ (.slice Ao62 y197.length co62 : Value).ownBlock ∧ some k_ ≠ (.slice Ao66 y205.length co66 : Value).ownBlock ∧ k_ ≠ gb161) (.slice Ao61 t162.length co61) t162) := ⟨by rw [← hq_]; exact (by (with_reducible repeat (first | apply Kd.R_alloc | apply Kd.R_drewN | apply Kd.R_drew)); exact Kd.R_mono HO164.out (fun _ hk => ⟨hk.1.1.1.1.1.1.1.2, ⟨hk.1.1.1.1.1.2, ⟨hk.1.1.1.1.2, ⟨hk.1.1.1.2, ⟨hk.1.1.2, ⟨hk.1.2, ⟨hk.2, hk.1.1.1.1.1.1.2⟩⟩⟩⟩⟩⟩⟩))⟩; have n4_ : Aside0 (Kd.R k24 24 w63 w.heap.size (fun k_ => some k_ ≠ (.slice (some ad193) t150.length co39 : Value).ownBlock ∧ some k_ ≠ (.slice Ao61 t162.length co61 : Value).ownBlock ∧ some k_ ≠ (v172 : Value).ownBlock ∧ some k_ ≠ (v176 : Value).ownBlock ∧ some k_ ≠ (v180 : Value).ownBlock ∧ some k_ ≠ (.slice Ao62 y197.length co62 : Value).ownBlock ∧ some k_ ≠ (.slice Ao66 y205.length co66 : Value).ownBlock ∧ k_ ≠ gb161) (.slice Ao65 t166.length co65) t166) := ⟨by rw [← hq_]; exact (by (with_reducible repeat (first | apply Kd.R_alloc | apply Kd.R_drewN | apply Kd.R_drew)); exact Kd.R_mono HO169.out (fun _ hk => ⟨hk.1.1.1.1.1.1.1.2, ⟨hk.1.1.1.1.1.1.2, ⟨hk.1.1.1.1.2, ⟨hk.1.1.1.2, ⟨hk.1.1.2, ⟨hk.1.2, ⟨hk.2, hk.1.1.1.1.1.2⟩⟩⟩⟩⟩⟩⟩))⟩; have n5_ : Aside0 (Kd.R k24 24 w63 w.heap.size (fun k_ => some k_ ≠ (.slice (some ad193) t150.length co39 : Value).ownBlock ∧ some k_ ≠ (.slice Ao61 t162.length co61 : Value).ownBlock ∧ some k_ ≠ (.slice Ao65 t166.length co65 : Value).ownBlock ∧ some k_ ≠ (v176 : Value).ownBlock ∧ some k_ ≠ (v180 : Value).ownBlock ∧ some k_ ≠ (.slice Ao62 y197.length co62 : Value).ownBlock ∧ some k_ ≠ (.slice Ao66 y205.length co66 : Value).ownBlock ∧ k_ ≠ gb161) v172 t170) := ⟨by rw [← hq_]; exact (by (with_reducible repeat (first | apply Kd.R_alloc | apply Kd.R_drewN | apply Kd.R_drew)); exact Kd.R_mono HO173.out (fun _ hk => ⟨hk.1.1.1.1.1.1.1.2, ⟨hk.1.1.1.1.1.1.2, ⟨hk.1.1.1.1.1.2, ⟨hk.1.1.1.2, ⟨hk.1.1.2, ⟨hk.1.2, ⟨hk.2, hk.1.1.1.1.2⟩⟩⟩⟩⟩⟩⟩))⟩; have n6_ : Aside0 (Kd.R k24 24 w63 w.heap.size (fun k_ => some k_ ≠ (.slice (some ad193) t150.length co39 : Value).ownBlock ∧ some k_ ≠ (.slice Ao61 t162.length co61 : Value).ownBlock ∧ some k_ ≠ (.slice Ao65 t166.length co65 : Value).ownBlock ∧ some k_ ≠ (v172 : Value).ownBlock ∧ some k_ ≠ (v180 : Value).ownBlock ∧ some k_ ≠ (.slice Ao62 y197.length co62 : Value).ownBlock ∧ some k_ ≠ (.slice Ao66 y205.length co66 : Value).ownBlock ∧ k_ ≠ gb161) v176 t174) := ⟨by rw [← hq_]; exact (by (with_reducible repeat (first | apply Kd.R_alloc | apply Kd.R_drewN | apply Kd.R_drew)); exact Kd.R_mono HO177.out (fun _ hk => ⟨hk.1.1.1.1.1.1.1.2, ⟨hk.1.1.1.1.1.1.2, ⟨hk.1.1.1.1.1.2, ⟨hk.1.1.1.1.2, ⟨hk.1.1.2, ⟨hk.1.2, ⟨hk.2, hk.1.1.1.2⟩⟩⟩⟩⟩⟩⟩))⟩; have n7_ : Aside0 (Kd.R k24 24 w63 w.heap.size (fun k_ => some k_ ≠ (.slice (some ad193) t150.length co39 : Value).ownBlock ∧ some k_ ≠ (.slice Ao61 t162.length co61 : Value).ownBlock ∧ some k_ ≠ (.slice Ao65 t166.length co65 : Value).ownBlock ∧ some k_ ≠ (v172 : Value).ownBlock ∧ some k_ ≠ (v176 : Value).ownBlock ∧ some k_ ≠ (.slice Ao62 y197.length co62 : Value).ownBlock ∧ some k_ ≠ (.slice Ao66 y205.length co66 : Value).ownBlock ∧ k_ ≠ gb161) v180 t178) := ⟨by rw [← hq_]; exact (by (with_reducible repeat (first | apply Kd.R_alloc | apply Kd.R_drewN | apply Kd.R_drew)); exact Kd.R_mono HO181.out (fun _ hk => ⟨hk.1.1.1.1.1.1.1.2, ⟨hk.1.1.1.1.1.1.2, ⟨hk.1.1.1.1.1.2, ⟨hk.1.1.1.1.2, ⟨hk.1.1.1.2, ⟨hk.1.2, ⟨hk.2, hk.1.1.2⟩⟩⟩⟩⟩⟩⟩))⟩; have n8_ : Aside0 (Kd.R (Kd.int .i64) 3 w63 w.heap.size (fun k_ => some k_ ≠ (.slice Ao53 t153.length co53 : Value).ownBlock ∧ some k_ ≠ (.slice Ao57 t157.length co57 : Value).ownBlock ∧ some k_ ≠ (.slice Ao58 y189.length co58 : Value).ownBlock) (.slice Ao54 y185.length co54) y185) := ⟨by rw [← hq_]; exact (by (with_reducible repeat (first | apply Kd.R_alloc | apply Kd.R_drewN | apply Kd.R_drew)); exact Kd.R_mono HO187.out (fun _ hk => ⟨hk.1.1.2, ⟨hk.1.2, hk.2⟩⟩))⟩; have n9_ : Aside0 (Kd.R (Kd.int .i64) 3 w63 w.heap.size (fun k_ => some k_ ≠ (.slice Ao53 t153.length co53 : Value).ownBlock ∧ some k_ ≠ (.slice Ao57 t157.length co57 : Value).ownBlock ∧ some k_ ≠ (.slice Ao54 y185.length co54 : Value).ownBlock) (.slice Ao58 y189.length co58) y189) := ⟨by rw [← hq_]; exact (by (with_reducible repeat (first | apply Kd.R_alloc | apply Kd.R_drewN | apply Kd.R_drew)); exact Kd.R_mono HO191.out (fun _ hk => ⟨hk.1.1.2, ⟨hk.1.2, hk.2⟩⟩))⟩; have n10_ : Aside0 (Kd.R k24 24 w63 w.heap.size (fun k_ => some k_ ≠ (.slice (some ad193) t150.length co39 : Value).ownBlock ∧ some k_ ≠ (.slice Ao61 t162.length co61 : Value).ownBlock ∧ some k_ ≠ (.slice Ao65 t166.length co65 : Value).ownBlock ∧ some k_ ≠ (v172 : Value).ownBlock ∧ some k_ ≠ (v176 : Value).ownBlock ∧ some k_ ≠ (v180 : Value).ownBlock ∧ some k_ ≠ (.slice Ao66 y205.length co66 : Value).ownBlock ∧ k_ ≠ gb161) (.slice Ao62 y197.length co62) y197) := ⟨by rw [← hq_]; exact (by (with_reducible repeat (first | apply Kd.R_alloc | apply Kd.R_drewN | apply Kd.R_drew)); exact Kd.R_mono HO199.out (fun _ hk => ⟨hk.1.1.1.1.1.1.1.2, ⟨hk.1.1.1.1.1.1.2, ⟨hk.1.1.1.1.1.2, ⟨hk.1.1.1.1.2, ⟨hk.1.1.1.2, ⟨hk.1.1.2, ⟨hk.2, hk.1.2⟩⟩⟩⟩⟩⟩⟩))⟩; have n11_ : Aside0 (Kd.R k24 24 w63 w.heap.size (fun k_ => some k_ ≠ (.slice (some ad193) t150.length co39 : Value).ownBlock ∧ some k_ ≠ (.slice Ao61 t162.length co61 : Value).ownBlock ∧ some k_ ≠ (.slice Ao65 t166.length co65 : Value).ownBlock ∧ some k_ ≠ (v172 : Value).ownBlock ∧ some k_ ≠ (v176 : Value).ownBlock ∧ some k_ ≠ (v180 : Value).ownBlock ∧ some k_ ≠ (.slice Ao62 y197.length co62 : Value).ownBlock ∧ k_ ≠ gb161) (.slice Ao66 y205.length co66) y205) := ⟨by rw [← hq_]; exact (by (with_reducible repeat (first | apply Kd.R_alloc | apply Kd.R_drewN | apply Kd.R_drew)); exact Kd.R_mono HO207.out (fun _ hk => ⟨hk.1.1.1.1.1.1.1.2, ⟨hk.1.1.1.1.1.1.2, ⟨hk.1.1.1.1.1.2, ⟨hk.1.1.1.1.2, ⟨hk.1.1.1.2, ⟨hk.1.1.2, ⟨hk.1.2, hk.2⟩⟩⟩⟩⟩⟩⟩))⟩; have n12_ : Aside0 (w63.heap[gb161]? = some (.cells #[.int .i64 5, .int .i64 1, .int .i64 10, .int .i64 0, .string (⟨#[]⟩ : ByteArray)] 24 (0, 0))) := ⟨by rw [← hq_]; exact z6_⟩; have n13_ : Aside0 (Below w.heap.size w w63) := ⟨by rw [← hq_]; exact z4_⟩; clear HO152 HO156 HO160 HO164 HO169 HO173 HO177 HO181 HO187 HO191 HO199 HO207 BK161 HB hq_; have HO152 := n0_; have HO156 := n1_; have HO160 := n2_; have HO164 := n3_; have HO169 := n4_; have HO173 := n5_; have HO177 := n6_; have HO181 := n7_; have HO187 := n8_; have HO191 := n9_; have HO199 := n10_; have HO207 := n11_; have BK161 := n12_; have HB := n13_; clear n0_ n1_ n2_ n3_ n4_ n5_ n6_ n7_ n8_ n9_ n10_ n11_ n12_ n13_))
         have n0_ := Aside0.mk (Kd.R_drew HO152.out)
         have n1_ := Aside0.mk (Kd.R_drew HO156.out)
         have n2_ := Aside0.mk (Kd.R_drew HO160.out)
         have n3_ := Aside0.mk (Kd.R_drew HO164.out)
         have n4_ := Aside0.mk (Kd.R_drew HO169.out)
         have n5_ := Aside0.mk (Kd.R_drew HO173.out)
         have n6_ := Aside0.mk (Kd.R_drew HO177.out)
         have n7_ := Aside0.mk (Kd.R_drew HO181.out)
         have n8_ := Aside0.mk (Kd.R_drew HO187.out)
         have n9_ := Aside0.mk (Kd.R_drew HO191.out)
         have n10_ := Aside0.mk (Kd.R_drew HO199.out)
         have n11_ := Aside0.mk (Kd.R_drew HO207.out)
         have n12_ := Aside0.mk (blk_drew BK161.out)
         have n13_ := Aside0.mk (below_drew1 HB.out)
         clear HO152
         clear HO156
         clear HO160
         clear HO164
         clear HO169
         clear HO173
         clear HO177
         clear HO181
         clear HO187
         clear HO191
         clear HO199
         clear HO207
         clear BK161
         clear HB
         have HO152 := n0_
         have HO156 := n1_
         have HO160 := n2_
         have HO164 := n3_
         have HO169 := n4_
         have HO173 := n5_
         have HO177 := n6_
         have HO181 := n7_
         have HO187 := n8_
         have HO191 := n9_
         have HO199 := n10_
         have HO207 := n11_
         have BK161 := n12_
         have HB := n13_
         clear n0_ n1_ n2_ n3_ n4_ n5_ n6_ n7_ n8_ n9_ n10_ n11_ n12_ n13_
         have p209 : 0 ≤ (0 : Int) := (by omega)
         have q209 : 0 < (t150.length : Int) := of_decide_eq_true z3_
         obtain ⟨ad209, e209, hx209_0, hx209_1, hx209_2, hx209_3, hx209_4⟩ := at_T24 (Kd.R_reads' HO152.out).2.2 0 p209 q209
         obtain rfl : ad193 = ad209 := (by injection e209)
         have qi209 : (0 < t150.length) = True := eq_true (by omega)
         (try simp only [show ((0 : Int)).toNat = 0 from rfl, show 0 * 5 = 0 from rfl, Addr.add_zero'] at hx209_0 hx209_1 hx209_2 hx209_3 hx209_4)
         replace p209 := eq_true p209
         replace q209 := eq_true q209
         have p210 : 0 ≤ (3 : Int) := (by omega)
         have q210 : 3 < (t150.length : Int) := of_decide_eq_true z3_
         obtain ⟨ad210, e210, hx210_0, hx210_1, hx210_2, hx210_3, hx210_4⟩ := at_T24 (Kd.R_reads' HO152.out).2.2 3 p210 q210
         obtain rfl : ad193 = ad210 := (by injection e210)
         (try simp only [show (3 : Int).toNat = 3 from rfl, Nat.reduceMul, Nat.reduceEqDiff, Go.Addr.add, ↓reduceIte] at hx210_0)
         (try simp only [show (3 : Int).toNat = 3 from rfl, Nat.reduceMul, Nat.reduceEqDiff, Go.Addr.add, ↓reduceIte] at hx210_1)
         (try simp only [show (3 : Int).toNat = 3 from rfl, Nat.reduceMul, Nat.reduceEqDiff, Go.Addr.add, ↓reduceIte] at hx210_2)
         (try simp only [show (3 : Int).toNat = 3 from rfl, Nat.reduceMul, Nat.reduceEqDiff, Go.Addr.add, ↓reduceIte] at hx210_3)
         (try simp only [show (3 : Int).toNat = 3 from rfl, Nat.reduceMul, Nat.reduceEqDiff, Go.Addr.add, ↓reduceIte] at hx210_4)
         have qi210 : (3 < t150.length) = True := eq_true (by omega)
         (try simp only [show ((3 : Int)).toNat = 3 from rfl, show 3 * 5 = 15 from rfl] at hx210_0 hx210_1 hx210_2 hx210_3 hx210_4)
         replace p210 := eq_true p210
         replace q210 := eq_true q210
         refine start_ (n := 30) (S := fun w' => w'.cell? ad193 = some (.int .i64 ((rd_T24 t150 0).f0)) ∧ w'.cell? ⟨ad193.block, ad193.off + 1, none⟩ = some (.int .i64 ((rd_T24 t150 0).f1)) ∧ w'.cell? ⟨ad193.block, ad193.off + 2, none⟩ = some (.int .i64 ((rd_T24 t150 0).f2)) ∧ w'.cell? ⟨ad193.block, ad193.off + 3, none⟩ = some (.int .i64 ((rd_T24 t150 0).f3)) ∧ w'.cell? ⟨ad193.block, ad193.off + 4, none⟩ = some (.string ((rd_T24 t150 0).f4)) ∧ w'.cell? ⟨ad193.block, ad193.off + 15, none⟩ = some (.int .i64 ((rd_T24 t150 3).f0)) ∧ w'.cell? ⟨ad193.block, ad193.off + 15 + 1, none⟩ = some (.int .i64 ((rd_T24 t150 3).f1)) ∧ w'.cell? ⟨ad193.block, ad193.off + 15 + 2, none⟩ = some (.int .i64 ((rd_T24 t150 3).f2)) ∧ w'.cell? ⟨ad193.block, ad193.off + 15 + 3, none⟩ = some (.int .i64 ((rd_T24 t150 3).f3)) ∧ w'.cell? ⟨ad193.block, ad193.off + 15 + 4, none⟩ = some (.string ((rd_T24 t150 3).f4))) (ds := []) #[false, false, false, false, false, false, false, false, false, false, false, false, false, false, false, false, false, false, false, false, false, false, false, false, false, false, false, false, false, false] (by kernel_rfl) rfl rfl ⟨hx209_0, hx209_1, hx209_2, hx209_3, hx209_4, hx210_0, hx210_1, hx210_2, hx210_3, hx210_4⟩ (fun hHeld => ?_); refine with_tabW formelaw10_head.tab13 formelaw10_head.bits13 (fun HT_ HW_ => ?_)
         generalize w63.drew = w67 at HO152 HO156 HO160 HO164 HO169 HO173 HO177 HO181 HO187 HO191 HO199 HO207 BK161 HB hx209_0 hx209_1 hx209_2 hx209_3 hx209_4 hx210_0 hx210_1 hx210_2 hx210_3 hx210_4 hHeld ⊢
         refine pz_ 0 (some 141) ?_
         refine pz_ 1 (some 142) ?_
         refine pz_ 2 (some 143) ?_
         refine pz_ 3 (some 144) ?_
         refine pz_ 4 (some 145) ?_
         refine pz_ 6 (some 147) ?_
         refine pz_ 7 (some 148) ?_
         refine tz_ 5 (some 146) hHeld ?_
         refine tz_ 8 (some 149) hHeld ?_
         refine oz_ 9 (some 150) (fun K hK => ?_)
         refine Kd.R_lit_step k24 _ 24 ?hg (N := 150) ?hd (xs := ([(⟨(rd_T24 t150 0).f0, (rd_T24 t150 0).f1, (rd_T24 t150 0).f2, (rd_T24 t150 0).f3, (rd_T24 t150 0).f4⟩ : S24), (⟨(rd_T24 t150 3).f0, (rd_T24 t150 3).f1, (rd_T24 t150 3).f2, (rd_T24 t150 3).f3, (rd_T24 t150 3).f4⟩ : S24)] : List (S24))) (inner := [.int .i64 ((rd_T24 t150 0).f0), .int .i64 ((rd_T24 t150 0).f1), .int .i64 ((rd_T24 t150 0).f2), .int .i64 ((rd_T24 t150 0).f3), .string ((rd_T24 t150 0).f4), .int .i64 ((rd_T24 t150 3).f0), .int .i64 ((rd_T24 t150 3).f1), .int .i64 ((rd_T24 t150 3).f2), .int .i64 ((rd_T24 t150 3).f3), .string ((rd_T24 t150 3).f4)]) (ok := fun _ => True) (okp := fun _ => True) ?hr ?hp (fun _ hk => hk) trivial (Below.refl _ _) (Nat.le_refl _) (by simp) ?_; (case hd => rfl); (case hg => rfl); (case hr => exact z11_); (case hp => exact (Reps.c5 (show Kd.M k24 _ _ _ (⟨(rd_T24 t150 0).f0, (rd_T24 t150 0).f1, (rd_T24 t150 0).f2, (rd_T24 t150 0).f3, (rd_T24 t150 0).f4⟩ : S24) [.int .i64 ((rd_T24 t150 0).f0), .int .i64 ((rd_T24 t150 0).f1), .int .i64 ((rd_T24 t150 0).f2), .int .i64 ((rd_T24 t150 0).f3), .string ((rd_T24 t150 0).f4)] from (k24_mkM _ _ _ (⟨(rd_T24 t150 0).f0, (rd_T24 t150 0).f1, (rd_T24 t150 0).f2, (rd_T24 t150 0).f3, (rd_T24 t150 0).f4⟩ : S24) )) (Reps.c5 (show Kd.M k24 _ _ _ (⟨(rd_T24 t150 3).f0, (rd_T24 t150 3).f1, (rd_T24 t150 3).f2, (rd_T24 t150 3).f3, (rd_T24 t150 3).f4⟩ : S24) [.int .i64 ((rd_T24 t150 3).f0), .int .i64 ((rd_T24 t150 3).f1), .int .i64 ((rd_T24 t150 3).f2), .int .i64 ((rd_T24 t150 3).f3), .string ((rd_T24 t150 3).f4)] from (k24_mkM _ _ _ (⟨(rd_T24 t150 3).f0, (rd_T24 t150 3).f1, (rd_T24 t150 3).f2, (rd_T24 t150 3).f3, (rd_T24 t150 3).f4⟩ : S24) )) (Reps.none _ _))))
         intro v212 w68 ho69 hb hg_ hnew_
         have HS0_ := hbc_ hb hHeld.1
         have HS1_ := hbc_ hb hHeld.2.1
         have HS2_ := hbc_ hb hHeld.2.2.1
         have HS3_ := hbc_ hb hHeld.2.2.2.1
         have HS4_ := hbc_ hb hHeld.2.2.2.2.1
         have HS5_ := hbc_ hb hHeld.2.2.2.2.2.1
         have HS6_ := hbc_ hb hHeld.2.2.2.2.2.2.1
         have HS7_ := hbc_ hb hHeld.2.2.2.2.2.2.2.1
         have HS8_ := hbc_ hb hHeld.2.2.2.2.2.2.2.2.1
         have HS9_ := hbc_ hb hHeld.2.2.2.2.2.2.2.2.2
         clear hg_ hnew_
         (first | rw [← Ny211.out] at ho69 | (simp only [Int.reduceToNat] at ho69; rw [← Ny211.out] at ho69))
         have n0_ := Aside0.mk (Kd.R_elder' z7_ (Kd.R_base ho69) hb)
         have n1_ := Aside0.mk (Kd.R_below z14_ hb)
         have n2_ := Aside0.mk (Kd.R_below z17_ hb)
         have n3_ := Aside0.mk (Kd.R_elder' z12_ (Kd.R_base ho69) hb)
         have n4_ := Aside0.mk (Kd.R_elder' z15_ (Kd.R_base ho69) hb)
         have n5_ := Aside0.mk (Kd.R_elder' z18_ (Kd.R_base ho69) hb)
         have n6_ := Aside0.mk (Kd.R_elder' z22_ (Kd.R_base ho69) hb)
         have n7_ := Aside0.mk (Kd.R_elder' z25_ (Kd.R_base ho69) hb)
         have n8_ := Aside0.mk (Kd.R_below z28_ hb)
         have n9_ := Aside0.mk (Kd.R_below z31_ hb)
         have n10_ := Aside0.mk (Kd.R_elder' z30_ (Kd.R_base ho69) hb)
         have n11_ := Aside0.mk (Kd.R_elder' z33_ (Kd.R_base ho69) hb)
         have n12_ := Aside0.mk (Kd.R_lower (Kd.R_newB (Kd.R_new' (Kd.R_new' (Kd.R_new' (Kd.R_new' (Kd.R_new' (Kd.R_new' (Kd.R_new' (Kd.R_new' ho69 (Kd.R_lt z7_)) (Kd.R_lt z12_)) (Kd.R_lt z15_)) (Kd.R_lt z18_)) (Kd.R_lt z22_)) (Kd.R_lt z25_)) (Kd.R_lt z30_)) (Kd.R_lt z33_)) (g := gb161) (o := .cells #[.int .i64 5, .int .i64 1, .int .i64 10, .int .i64 0, .string (⟨#[]⟩ : ByteArray)] 24 (0, 0)) z6_) (below_size z4_))
         have n13_ := Aside0.mk (blk_below (g := gb161) (o := .cells #[.int .i64 5, .int .i64 1, .int .i64 10, .int .i64 0, .string (⟨#[]⟩ : ByteArray)] 24 (0, 0)) z6_ hb)
         have n14_ := Aside0.mk (below_step z4_ hb)
         clear HO152
         clear HO156
         clear HO160
         clear HO164
         clear HO169
         clear HO173
         clear HO177
         clear HO181
         clear HO187
         clear HO191
         clear HO199
         clear HO207
         clear BK161
         clear HB
         have HO152 := n0_
         have HO156 := n1_
         have HO160 := n2_
         have HO164 := n3_
         have HO169 := n4_
         have HO173 := n5_
         have HO177 := n6_
         have HO181 := n7_
         have HO187 := n8_
         have HO191 := n9_
         have HO199 := n10_
         have HO207 := n11_
         have HO213 := n12_
         have BK161 := n13_
         have HB := n14_
         clear n0_ n1_ n2_ n3_ n4_ n5_ n6_ n7_ n8_ n9_ n10_ n11_ n12_ n13_ n14_
         clear hb ho69
         obtain ⟨Ao70, co70, eo70⟩ := Kd.R_slice HO181.out
         (first | subst eo70 | (injection eo70 with f1_ f2_ f3_; have f4_ := f1_.symm; have f5_ := f3_.symm; clear f1_ f2_ f3_; subst f4_; subst f5_))
         obtain ⟨Ao71, co71, eo71⟩ := Kd.R_slice HO213.out
         (first | subst eo71 | (injection eo71 with f1_ f2_ f3_; have f4_ := f1_.symm; have f5_ := f3_.symm; clear f1_ f2_ f3_; subst f4_; subst f5_))
         refine hK.out _ _ ⟨HS0_, HS1_, HS2_, HS3_, HS4_, HS5_, HS6_, HS7_, HS8_, HS9_⟩ (fun hHeld => ?_)
         clear hK K
         refine norm_ (a' := ?_) ?_ ?_
         rotate_left
         ·show Act.put _ (some 150) _ = _
          simp only [Act.put, List.setIfInBounds_toArray, List.set_cons_zero, List.set_cons_succ, i64_w, i32_w]
          rfl
         refine oz_ 10 (some 151) (fun K hK => ?_)
         refine goes_ Try.func22 (by kernel_rfl) rfl #[.slice Ao70 t178.length co70, .slice Ao71 y211.length co71] (by rfl) rfl rfl z2_ ?_
         with_reducible refine (formeref10_Same.calls k _ _ t178 _ _ y211 true _ ?side1 ?side2 ?side3 ?side4 A30.out).mono ?_
         (case side1 => repeat (first | exact (Kd.R_reads' HO181.out).2.2 | (with_reducible refine Kd.C_alloc ?_ _) | (with_reducible refine Kd.C_drewN ?_ _) | (with_reducible refine Kd.C_drew ?_)))
         (case side2 => exact (Kd.R_reads' HO181.out).2.1)
         (case side3 => repeat (first | exact (Kd.R_reads' HO213.out).2.2 | (with_reducible refine Kd.C_alloc ?_ _) | (with_reducible refine Kd.C_drewN ?_ _) | (with_reducible refine Kd.C_drew ?_)))
         (case side4 => exact (Kd.R_reads' HO213.out).2.1)
         rintro e w' ⟨rfl, ⟨nd, rfl⟩⟩
         refine ⟨_, rfl, ?_⟩
         refine hK.out _ _ ⟨hHeld.1, hHeld.2.1, hHeld.2.2.1, hHeld.2.2.2.1, hHeld.2.2.2.2.1, hHeld.2.2.2.2.2.1, hHeld.2.2.2.2.2.2.1, hHeld.2.2.2.2.2.2.2.1, hHeld.2.2.2.2.2.2.2.2.1, hHeld.2.2.2.2.2.2.2.2.2⟩ (fun hHeld => ?_)
         clear hK K
         refine norm_ (a' := ?_) ?_ ?_
         rotate_left
         ·show Act.put _ (some 151) _ = _
          simp only [Act.put, List.setIfInBounds_toArray, List.set_cons_zero, List.set_cons_succ, i64_w, i32_w]
          rfl
         refine pz_ 11 (some 152) ?_
         refine pz_ 12 (some 153) ?_
         refine pz_ 13 (some 154) ?_
         refine pz_ 14 (some 155) ?_
         refine pz_ 15 (some 156) ?_
         refine pz_ 16 (some 157) ?_
         refine pz_ 17 (some 158) ?_
         refine pz_ 18 (some 159) ?_
         refine pz_ 19 (some 160) ?_
         refine pz_ 20 (some 161) ?_
         refine oz_ 21 (some 162) (fun K hK => ?_)
         refine goes_ Try.func13 (by kernel_rfl) rfl #[.slice (some ad193) t150.length co39] (by rfl) rfl rfl z2_ ?_
         with_reducible refine (tree_Valid.calls _ _ t150 true _ ?side1 ?side2 A34.out).mono ?_
         (case side1 => exact z21_)
         (case side2 => exact z34_)
         rintro e w72 ⟨rfl, hb⟩
         have HS0_ := hbc_ hb hHeld.1
         have HS1_ := hbc_ hb hHeld.2.1
         have HS2_ := hbc_ hb hHeld.2.2.1
         have HS3_ := hbc_ hb hHeld.2.2.2.1
         have HS4_ := hbc_ hb hHeld.2.2.2.2.1
         have HS5_ := hbc_ hb hHeld.2.2.2.2.2.1
         have HS6_ := hbc_ hb hHeld.2.2.2.2.2.2.1
         have HS7_ := hbc_ hb hHeld.2.2.2.2.2.2.2.1
         have HS8_ := hbc_ hb hHeld.2.2.2.2.2.2.2.2.1
         have HS9_ := hbc_ hb hHeld.2.2.2.2.2.2.2.2.2
         refine ⟨_, rfl, ?_⟩
         have n0_ := Aside0.mk (Kd.R_below z7_ hb)
         have n1_ := Aside0.mk (Kd.R_below z14_ hb)
         have n2_ := Aside0.mk (Kd.R_below z17_ hb)
         have n3_ := Aside0.mk (Kd.R_below z12_ hb)
         have n4_ := Aside0.mk (Kd.R_below z15_ hb)
         have n5_ := Aside0.mk (Kd.R_below z18_ hb)
         have n6_ := Aside0.mk (Kd.R_below z22_ hb)
         have n7_ := Aside0.mk (Kd.R_below z25_ hb)
         have n8_ := Aside0.mk (Kd.R_below z28_ hb)
         have n9_ := Aside0.mk (Kd.R_below z31_ hb)
         have n10_ := Aside0.mk (Kd.R_below z30_ hb)
         have n11_ := Aside0.mk (Kd.R_below z33_ hb)
         have n12_ := Aside0.mk (Kd.R_below (by (with_reducible repeat (first | apply Kd.R_alloc | apply Kd.R_drewN | apply Kd.R_drew)); exact HO213.out) hb)
         have n13_ := Aside0.mk (blk_below (g := gb161) (o := .cells #[.int .i64 5, .int .i64 1, .int .i64 10, .int .i64 0, .string (⟨#[]⟩ : ByteArray)] 24 (0, 0)) z6_ hb)
         have n14_ := Aside0.mk (below_step z4_ hb)
         clear HO152
         clear HO156
         clear HO160
         clear HO164
         clear HO169
         clear HO173
         clear HO177
         clear HO181
         clear HO187
         clear HO191
         clear HO199
         clear HO207
         clear HO213
         clear BK161
         clear HB
         have HO152 := n0_
         have HO156 := n1_
         have HO160 := n2_
         have HO164 := n3_
         have HO169 := n4_
         have HO173 := n5_
         have HO177 := n6_
         have HO181 := n7_
         have HO187 := n8_
         have HO191 := n9_
         have HO199 := n10_
         have HO207 := n11_
         have HO213 := n12_
         have BK161 := n13_
         have HB := n14_
         clear n0_ n1_ n2_ n3_ n4_ n5_ n6_ n7_ n8_ n9_ n10_ n11_ n12_ n13_ n14_
         (try clear hb)
         (try clear hb2)
         (try clear hk)
         (try clear hi)
         have q73 : (1 : Int) ≤ ((t150.length : Int) : Int) := of_decide_eq_true z3_
         obtain ⟨i073, hi073, _, hsz73, _⟩ := info_parts info24
         have hroom73 : t150.length ≤ co39 := (Kd.R_reads' HO152.out).2.1
         have hC73 : Kd.C k24 _ (some ad193) t150.length t150 := (Kd.R_reads' HO152.out).2.2
         have hcut73 := cut_from (P := Try.prog) 22 24 .i64 Try.underlying22 hi073 5 hsz73 (some ad193) t150.length co39 1 (by omega) q73
         have hr73 := Kd.C_drop (m := (1 : Int).toNat) (c := co39) hC73 (by omega) hroom73
         obtain ⟨A73, hA73⟩ : ∃ A1, A1 = (if co39 = (1 : Int).toNat then (some ad193) else ((some ad193) : Option Addr).map (·.add ((1 : Int).toNat * 5))) := ⟨_, rfl⟩
         obtain ⟨c73, hc73⟩ : ∃ c1, c1 = co39 - (1 : Int).toNat := ⟨_, rfl⟩
         have hy73 : y216.length = t150.length - (1 : Int).toNat := (by rw [Ny216.out, List.length_drop] <;> omega)
         rw [show (t150).drop (1 : Int).toNat = y216 from Ny216.out.symm] at hr73
         replace hr73 : Kd.C k24 _ A73 y216.length y216 := (by rw [hA73]; exact hr73)
         rw [← hy73, ← hA73, ← hc73] at hcut73
         have HR219 := Aside0.mk hr73
         have HC219 := Aside0.mk (show y216.length ≤ c73 from by rw [hy73, hc73]; exact Nat.sub_le_sub_right hroom73 _)
         clear hr73 hC73 hroom73 hi073 hsz73 hc73
         have KY73 := Aside0.mk hy73
         have KA73 := Aside0.mk hA73
         clear hy73 hA73
         have KL73 := Aside0.mk (show 1 ≤ t150.length from by omega)
         replace q73 := eq_true q73
         refine hK.out _ _ ⟨HS0_, HS1_, HS2_, HS3_, HS4_, HS5_, HS6_, HS7_, HS8_, HS9_⟩ (fun hHeld => ?_)
         clear hK K
         refine norm_ (a' := ?_) ?_ ?_
         rotate_left
         ·show Act.put _ (some 162) _ = _
          simp only [Act.put, List.setIfInBounds_toArray, List.set_cons_zero, List.set_cons_succ, i64_w, i32_w]
          rfl
         refine pz_ 22 (some 163) ?_
         refine pz_ 23 (some 164) ?_
         refine pz_ 24 (some 165) ?_
         refine pz_ 25 (some 166) ?_
         refine oz_ 26 (some 167) (fun K hK => ?_)
         refine goes_ Try.func13 (by kernel_rfl) rfl #[.slice A73 y216.length c73] (by rfl) rfl rfl z2_ ?_
         with_reducible refine (tree_Valid.calls _ _ y216 t220 _ ?side1 ?side2 A37.out).mono ?_
         (case side1 => repeat (first | exact (by repeat (first | (with_reducible exact HR219.out) | (with_reducible refine Kd.C_alloc ?_ _) | (with_reducible refine Kd.C_drewN ?_ _) | (with_reducible refine Kd.C_drew ?_) | exact HR219.out)) | (with_reducible refine Kd.C_alloc ?_ _) | (with_reducible refine Kd.C_drewN ?_ _) | (with_reducible refine Kd.C_drew ?_)))
         (case side2 => exact HC219.out)
         rintro e w74 ⟨rfl, hb⟩
         have HS0_ := hbc_ hb hHeld.1
         have HS1_ := hbc_ hb hHeld.2.1
         have HS2_ := hbc_ hb hHeld.2.2.1
         have HS3_ := hbc_ hb hHeld.2.2.2.1
         have HS4_ := hbc_ hb hHeld.2.2.2.2.1
         have HS5_ := hbc_ hb hHeld.2.2.2.2.2.1
         have HS6_ := hbc_ hb hHeld.2.2.2.2.2.2.1
         have HS7_ := hbc_ hb hHeld.2.2.2.2.2.2.2.1
         have HS8_ := hbc_ hb hHeld.2.2.2.2.2.2.2.2.1
         have HS9_ := hbc_ hb hHeld.2.2.2.2.2.2.2.2.2
         refine ⟨_, rfl, ?_⟩
         have n0_ := Aside0.mk (Kd.R_below z7_ hb)
         have n1_ := Aside0.mk (Kd.R_below z14_ hb)
         have n2_ := Aside0.mk (Kd.R_below z17_ hb)
         have n3_ := Aside0.mk (Kd.R_below z12_ hb)
         have n4_ := Aside0.mk (Kd.R_below z15_ hb)
         have n5_ := Aside0.mk (Kd.R_below z18_ hb)
         have n6_ := Aside0.mk (Kd.R_below z22_ hb)
         have n7_ := Aside0.mk (Kd.R_below z25_ hb)
         have n8_ := Aside0.mk (Kd.R_below z28_ hb)
         have n9_ := Aside0.mk (Kd.R_below z31_ hb)
         have n10_ := Aside0.mk (Kd.R_below z30_ hb)
         have n11_ := Aside0.mk (Kd.R_below z33_ hb)
         have n12_ := Aside0.mk (Kd.R_below (by (with_reducible repeat (first | apply Kd.R_alloc | apply Kd.R_drewN | apply Kd.R_drew)); exact HO213.out) hb)
         have n13_ := Aside0.mk (blk_below (g := gb161) (o := .cells #[.int .i64 5, .int .i64 1, .int .i64 10, .int .i64 0, .string (⟨#[]⟩ : ByteArray)] 24 (0, 0)) z6_ hb)
         have n14_ := Aside0.mk (Kd.C_below (by repeat (first | (with_reducible exact HR219.out) | (with_reducible refine Kd.C_alloc ?_ _) | (with_reducible refine Kd.C_drewN ?_ _) | (with_reducible refine Kd.C_drew ?_) | exact HR219.out)) hb)
         have n15_ := Aside0.mk (below_step z4_ hb)
         clear HO152
         clear HO156
         clear HO160
         clear HO164
         clear HO169
         clear HO173
         clear HO177
         clear HO181
         clear HO187
         clear HO191
         clear HO199
         clear HO207
         clear HO213
         clear BK161
         clear HR219
         clear HB
         have HO152 := n0_
         have HO156 := n1_
         have HO160 := n2_
         have HO164 := n3_
         have HO169 := n4_
         have HO173 := n5_
         have HO177 := n6_
         have HO181 := n7_
         have HO187 := n8_
         have HO191 := n9_
         have HO199 := n10_
         have HO207 := n11_
         have HO213 := n12_
         have BK161 := n13_
         have HR219 := n14_
         have HB := n15_
         clear n0_ n1_ n2_ n3_ n4_ n5_ n6_ n7_ n8_ n9_ n10_ n11_ n12_ n13_ n14_ n15_
         (try clear hb)
         (try clear hb2)
         (try clear hk)
         (try clear hi)
         refine hK.out _ _ ⟨HS0_, HS1_, HS2_, HS3_, HS4_, HS5_, HS6_, HS7_, HS8_, HS9_⟩ (fun hHeld => ?_)
         clear hK K
         refine norm_ (a' := ?_) ?_ ?_
         rotate_left
         ·show Act.put _ (some 167) _ = _
          simp only [Act.put, List.setIfInBounds_toArray, List.set_cons_zero, List.set_cons_succ, i64_w, i32_w]
          rfl
         refine pz_ 27 (some 168) ?_
         refine pz_ 28 (some 169) ?_
         refine pz_ 29 (some 0) ?_
         refine done_ (done_of HT_.out (by kernel_rfl)) ?_
         try go_wp2
         go_ret
         exact ⟨by first | rfl | (simp [errW_none, errW_some] <;> rfl) | (simp [*, errW_none, errW_some] <;> rfl), by repeat (first | (with_reducible first | exact HB.out | apply below_alloc | apply pw_below_drewN | apply below_drew1 | refine below_set ?_ GE161.out) | exact HB.out)⟩
        ·replace c35 := Bool.eq_false_iff.mpr c35
         subst c35
         have H1 : (none) = some r := by rw [if_neg (show ¬ (false = true) by decide)] at H; exact H
         clear H
         have H := H1
         clear H1
         exact absurd H (by simp)
       ·replace c33 := Bool.eq_false_iff.mpr c33
        subst c33
        have H1 : (none) = some r := by rw [if_neg (show ¬ (false = true) by decide)] at H; exact H
        clear H
        have H := H1
        clear H1
        exact absurd H (by simp)
      ·replace c31 := Bool.eq_false_iff.mpr c31
       subst c31
       have H1 : (none) = some r := by rw [if_neg (show ¬ (false = true) by decide)] at H; exact H
       clear H
       have H := H1
       clear H1
       exact absurd H (by simp)
     ·replace c29 := Bool.eq_false_iff.mpr c29
      subst c29
      have H1 : (none) = some r := by rw [if_neg (show ¬ (false = true) by decide)] at H; exact H
      clear H
      have H := H1
      clear H1
      exact absurd H (by simp)
    ·replace c27 := Bool.eq_false_iff.mpr c27
     subst c27
     have H1 : (none) = some r := by rw [if_neg (show ¬ (false = true) by decide)] at H; exact H
     clear H
     have H := H1
     clear H1
     exact absurd H (by simp)
   ·replace c21 := Bool.eq_false_iff.mpr c21
    subst c21
    have H1 : (none) = some r := by rw [if_neg (show ¬ (false = true) by decide)] at H; exact H
    clear H
    have H := H1
    clear H1
    exact absurd H (by simp)
  ·replace c19 := Bool.eq_false_iff.mpr c19
   subst c19
   have H1 : (none) = some r := by rw [if_neg (show ¬ (false = true) by decide)] at H; exact H
   clear H
   have H := H1
   clear H1
   exact absurd H (by simp)
 ·rw [if_neg c10] at H
  exact absurd H (by simp)
end Go.Proofs.Ytpafhhgoldenoaa.P
end
section
namespace Go.Proofs.Ytpafhhgoldenoaa.P
open Go.RowKit Go.Proofs.YtpafhhgoldenoaaW.PrintWords Go.Proofs.YtpafhhgoldenoaaW.PrintLast Go.Proofs.YtpafhhgoldenoaaW.PrintMore
attribute [local go_sem] max2_int min2_int max_two min_two max_three min_three max_four min_four
set_option linter.unusedVariables false
set_option linter.unusedSimpArgs false
def formelaw10_few.f (l0 : List (S24)) : Option (Bool) := some (decide ((l0.length : Int) ≤ 60))
set_option maxHeartbeats 8000000 in
set_option maxRecDepth 100000 in
theorem formelaw10_few.calls (A0 : Option Addr) (c0 : Nat) (l0 : List (S24)) (r : Bool) (w : World) (hr0 : Kd.C k24 w A0 l0.length l0) (hc0 : l0.length ≤ c0) (h : formelaw10_few.f l0 = some r) :
  Calls Try.prog 10 #[.slice A0 l0.length c0] w fun e w' => e = .returned (.bool r) ∧ Drawn0 w w' := by
 have HR0 := Aside0.mk hr0
 have HC0 := Aside0.mk hc0
 clear hr0 hc0
 have H : (some (decide ((l0.length : Int) ≤ 60))) = some r := h
 clear h
 obtain rfl := Option.some.inj H
 go_enter Try.func10, Try.ntmps10
 go_wp2
 go_ret
 exact ⟨by first | rfl | (simp; done) | (simp [*]; done), by repeat (first | exact Drawn0.refl _ | apply Drawn0.step)⟩
end Go.Proofs.Ytpafhhgoldenoaa.P
end
section
namespace Go.Proofs.Ytpafhhgoldenoaa.P
open Go.RowKit Go.Proofs.YtpafhhgoldenoaaW.PrintWords Go.Proofs.YtpafhhgoldenoaaW.PrintLast Go.Proofs.YtpafhhgoldenoaaW.PrintMore
attribute [local go_sem] max2_int min2_int max_two min_two max_three min_three max_four min_four
set_option linter.unusedVariables false
set_option linter.unusedSimpArgs false
def formelaw10_usable.f (k : Nat) (l0 : List (S24)) : Option (Bool) := (formelaw10_few.f l0).bind fun t465 => (if t465 = true then ((formeref10_Valid.f k l0).bind fun t466 => (some t466)) else (some false))
set_option maxHeartbeats 8000000 in
set_option maxRecDepth 100000 in
theorem formelaw10_usable.calls (k : Nat) (A0 : Option Addr) (c0 : Nat) (l0 : List (S24)) (r : Bool) (w : World) (hr0 : Kd.C k24 w A0 l0.length l0) (hc0 : l0.length ≤ c0) (h : formelaw10_usable.f k l0 = some r) :
  Calls Try.prog 27 #[.slice A0 l0.length c0] w fun e w' => e = .returned (.bool r) ∧ Below w.heap.size w w' := by
 have HR0 := Aside0.mk hr0
 have HC0 := Aside0.mk hc0
 clear hr0 hc0
 have HB := Aside0.mk (Below.refl w.heap.size w)
 have H : ((formelaw10_few.f l0).bind fun t465 => (if t465 = true then ((formeref10_Valid.f k l0).bind fun t466 => (some t466)) else (some false))) = some r := h
 clear h
 replace H := Option.bind_eq_some_iff.mp H
 obtain ⟨t465, A20, H⟩ := H
 try dsimp only at H
 have A2 := Aside0.mk A20
 clear A20
 by_cases c3 : t465 = true
 ·subst c3
  have H1 : ((formeref10_Valid.f k l0).bind fun t466 => (some t466)) = some r := by rw [if_pos rfl] at H; exact H
  clear H
  have H := H1
  clear H1
  replace H := Option.bind_eq_some_iff.mp H
  obtain ⟨t466, A40, H⟩ := H
  try dsimp only at H
  have A4 := Aside0.mk A40
  clear A40
  obtain rfl := Option.some.inj H
  go_enter Try.func27, Try.ntmps27
  go_wp2_with (first | ((with_reducible refine gate_callee (f := 10) rfl ?_); refine goesL_ (some 4) rfl rfl Try.func10 (by kernel_rfl) rfl #[.slice A0 l0.length c0] rfl z2_ ?_; (with_reducible refine (formelaw10_few.calls _ _ l0 true _ ?side1 ?side2 A2.out).mono ?_); (case side1 => exact z9_); (case side2 => exact HC0.out); rintro e w' ⟨rfl, ⟨nd, rfl⟩⟩; refine ⟨_, rfl, ?_⟩) | (go_at_call 14; (with_reducible refine (formeref10_Valid.calls k _ _ l0 t466 _ ?side1 ?side2 A4.out).mono ?_); (case side1 => exact z9_); (case side2 => exact HC0.out); rintro e w5 ⟨rfl, hb⟩; have n0_ := Aside0.mk (below_step z1_ hb); clear HB; have HB := n0_; clear n0_; (try clear hb); (try clear hb2); (try clear hk); (try clear hi)))
  go_ret
  exact ⟨by first | rfl | (simp [errW_none, errW_some] <;> rfl) | (simp [*, errW_none, errW_some] <;> rfl), by repeat (first | (with_reducible first | exact HB.out | apply below_alloc | apply pw_below_drewN | apply below_drew1) | exact HB.out)⟩
 ·replace c3 := Bool.eq_false_iff.mpr c3
  subst c3
  have H1 : (some false) = some r := by rw [if_neg (show ¬ (false = true) by decide)] at H; exact H
  clear H
  have H := H1
  clear H1
  obtain rfl := Option.some.inj H
  go_enter Try.func27, Try.ntmps27
  go_wp2_with (first | ((with_reducible refine gate_callee (f := 10) rfl ?_); refine goesL_ (some 4) rfl rfl Try.func10 (by kernel_rfl) rfl #[.slice A0 l0.length c0] rfl z2_ ?_; (with_reducible refine (formelaw10_few.calls _ _ l0 false _ ?side1 ?side2 A2.out).mono ?_); (case side1 => exact z9_); (case side2 => exact HC0.out); rintro e w' ⟨rfl, ⟨nd, rfl⟩⟩; refine ⟨_, rfl, ?_⟩))
  go_ret
  exact ⟨by first | rfl | (simp [errW_none, errW_some] <;> rfl) | (simp [*, errW_none, errW_some] <;> rfl), by repeat (first | (with_reducible first | exact HB.out | apply below_alloc | apply pw_below_drewN | apply below_drew1) | exact HB.out)⟩
end Go.Proofs.Ytpafhhgoldenoaa.P
end
section
namespace Go.Proofs.Ytpafhhgoldenoaa.P
open Go.RowKit Go.Proofs.YtpafhhgoldenoaaW.PrintWords Go.Proofs.YtpafhhgoldenoaaW.PrintLast Go.Proofs.YtpafhhgoldenoaaW.PrintMore
open Go.Proofs.Ytpafhhgoldenoaa.XM
set_option linter.unusedVariables false
set_option linter.unusedSimpArgs false
theorem head_true : Ev (fun k => formelaw10_head.f k) true := Ev.of (fun k => formelaw10_head.mono k) (k := 20) (by kernel_rfl)
theorem usable_of (l : List S24) (hs : ∀ j, j < l.length → (nd l j).f4.size ≤ 9223372036854775807) : Ev (fun k => formelaw10_usable.f k l) (decide (l.length ≤ 60) && (placesP l).isSome) := by
 unfold formelaw10_usable.f formelaw10_few.f
 simp only [Option.bind_some]
 by_cases h : l.length ≤ 60
 ·simp only [h, decide_true, Bool.true_and]
  refine Ev.thn (by simp; omega) ?_
  exact Ev.bind (refValid l hs) (Ev.now _)
 ·simp only [h, decide_false, Bool.false_and]
  exact Ev.els (by simp; omega) (Ev.now _)
theorem usable_cases (l : List S24) (hs : ∀ j, j < l.length → (nd l j).f4.size ≤ 9223372036854775807) : Ev (fun k => formelaw10_usable.f k l) false ∨ (Ev (fun k => formelaw10_usable.f k l) true ∧ l.length ≤ 60 ∧ ∃ D ds, placesP l = some D ∧ TreeAt l ds ∧ PAt l ds l.length D) := by
 have h := usable_of l hs
 by_cases h1 : l.length ≤ 60
 ·cases e : placesP l with
  | none => rw [e] at h; exact .inl (by simpa using h)
  | some D =>
   obtain ⟨ds, T, P⟩ := placesP_tree e
   rw [e] at h
   exact .inr ⟨by simpa [h1] using h, h1, D, ds, rfl, T, P⟩
 ·exact .inl (by simpa [h1] using h)
end Go.Proofs.Ytpafhhgoldenoaa.P
end
section
namespace Go.Proofs.Ytpafhhgoldenoaa.P
open Go.RowKit Go.Proofs.YtpafhhgoldenoaaW.PrintWords Go.Proofs.YtpafhhgoldenoaaW.PrintLast Go.Proofs.YtpafhhgoldenoaaW.PrintMore
open Go.Proofs.Ytpafhhgoldenoaa.XM
set_option linter.unusedVariables false
set_option linter.unusedSimpArgs false
variable {l : List S24} {ds : Nat → Int} {D : Places}
theorem up_of (T : TreeAt l ds) {j k : Nat} (hj : j < l.length) (hk : k < j) (e : (nd l k).f0 = (nd l j).f1) : upIdx l j = some k :=
 upIdx_some hk e (fun m hm c => by
  have := T.inj (j := m) (k := k) (by omega) (by omega) (c.trans e.symm)
  omega)
theorem pathUp_more (T : TreeAt l ds) : ∀ (j n : Nat), j < l.length → j ≤ n → pathUp l n j = pathUp l j j := by
 intro j
 induction j using Nat.strongRecOn with
 | ind j ih =>
  intro n hj hn
  by_cases h0 : j = 0
  ·subst h0
   cases n with
   | zero => rfl
   | succ n => simp only [pathUp]; rw [if_pos (show (rd_T24 l ((0 : Nat) : Int)).f1 = 0 from T.root.1)]
  ·obtain ⟨k, hk, e, _, _⟩ := T.par j hj (by omega)
   have hu := up_of T hj hk e
   have hp : ¬ ((rd_T24 l (j : Int)).f1 = 0) := by
    have := T.id (j := k) (by omega)
    intro c
    have e' : (nd l k).f0 = (rd_T24 l (j : Int)).f1 := e
    omega
   obtain ⟨n, rfl⟩ : ∃ q, n = q + 1 := ⟨n - 1, by omega⟩
   obtain ⟨j', rfl⟩ : ∃ q, j = q + 1 := ⟨j - 1, by omega⟩
   simp only [pathUp]
   rw [if_neg hp, hu]
   simp only
   rw [ih k (by omega) n (by omega) (by omega), ih k (by omega) j' (by omega) (by omega), if_neg hp]
theorem path_root (T : TreeAt l ds) : pathP l 0 = [(nd l 0).f0] := rfl
theorem path_step (T : TreeAt l ds) {j : Nat} (hj : j < l.length) (h0 : 0 < j) : ∃ k, k < j ∧ (nd l k).f0 = (nd l j).f1 ∧ ds j = ds k + 1 ∧ pathP l j = pathP l k ++ [(nd l j).f0] := by
 obtain ⟨k, hk, e, _, e2⟩ := T.par j hj h0
 refine ⟨k, hk, e, e2, ?_⟩
 have hu := up_of T hj hk e
 have hp : ¬ ((rd_T24 l (j : Int)).f1 = 0) := by
  have := T.id (j := k) (by omega)
  intro c
  have e' : (nd l k).f0 = (rd_T24 l (j : Int)).f1 := e
  omega
 unfold pathP
 obtain ⟨j', rfl⟩ : ∃ q, j = q + 1 := ⟨j - 1, by omega⟩
 simp only [pathUp]
 rw [if_neg hp, hu]
 simp only
 rw [pathUp_more T k j' (by omega) (by omega), List.reverse_cons]
theorem path_all (T : TreeAt l ds) : ∀ j, j < l.length → ((pathP l j).length : Int) = ds j ∧ rd (pathP l j) 0 = (nd l 0).f0 ∧ rd (pathP l j) (((pathP l j).length - 1 : Nat) : Int) = (nd l j).f0 ∧
  ∀ q : Nat, q < (pathP l j).length → ∃ m, m < l.length ∧ rd (pathP l j) (q : Int) = (nd l m).f0 ∧ (0 < q → (nd l m).f1 = rd (pathP l j) ((q - 1 : Nat) : Int)) := by
 intro j
 induction j using Nat.strongRecOn with
 | ind j ih =>
  intro hj
  by_cases h0 : j = 0
  ·subst h0
   rw [path_root T]
   refine ⟨by rw [T.d0]; rfl, rfl, rfl, fun q hq => ⟨0, hj, ?_, fun h => by simp at hq; omega⟩⟩
   obtain rfl : q = 0 := by simp at hq; omega
   rfl
  ·obtain ⟨k, hk, e, e2, hp⟩ := path_step T hj (by omega)
   obtain ⟨i1, i2, i3, i4⟩ := ih k hk (by omega)
   have hd := T.dpos k (by omega)
   have hl0 : 0 < (pathP l k).length := by omega
   rw [hp]
   refine ⟨by simp; omega, ?_, ?_, fun q hq => ?_⟩
   ·exact (rd_snoc _ _ 0 hl0).trans i2
   ·simpa using rd_snoc_last (pathP l k) (nd l j).f0
   ·by_cases c : q < (pathP l k).length
    ·obtain ⟨m, m1, m2, m3⟩ := i4 q c
     refine ⟨m, m1, by rw [rd_snoc _ _ q c, m2], fun h => ?_⟩
     rw [rd_snoc _ _ (q - 1) (by omega)]
     exact m3 h
    ·obtain rfl : q = (pathP l k).length := by simp at hq; omega
     refine ⟨j, hj, rd_snoc_last _ _, fun h => ?_⟩
     rw [rd_snoc _ _ ((pathP l k).length - 1) (by omega), i3, e]
theorem find_at' (hD : placesP l = some D) (T : TreeAt l ds) (P : PAt l ds l.length D) {j : Nat} (hj : j < l.length) : findP l (nd l j).f0 = ((j : Int), true, 0) := by
 have hid := (idB_iff _).2 (T.id hj)
 unfold findP
 rw [hD]
 simp only [hid, if_true, P.1 j hj]
 simp
theorem get_at' (hD : placesP l = some D) (T : TreeAt l ds) (P : PAt l ds l.length D) {j : Nat} (hj : j < l.length) : tree_get.f l (nd l j).f0 = some ((j : Int), 0) := by
 unfold tree_get.f tree_Find.f
 rw [find_at' hD T P hj]
 simp
end Go.Proofs.Ytpafhhgoldenoaa.P
end
section
namespace Go.Proofs.Ytpafhhgoldenoaa.P
open Go.RowKit Go.Proofs.YtpafhhgoldenoaaW.PrintWords Go.Proofs.YtpafhhgoldenoaaW.PrintLast Go.Proofs.YtpafhhgoldenoaaW.PrintMore
open Go.Proofs.Ytpafhhgoldenoaa.XM
set_option linter.unusedVariables false
set_option linter.unusedSimpArgs false
variable {l : List S24} {ds : Nat → Int} {D : Places}
def inB (l : List S24) (id : Int) (j : Nat) : Bool := decide (id ∈ pathP l j)
def selP (l : List S24) (p : Nat → Bool) (i : Nat) : List S24 := ((List.range i).filter p).map (nd l)
theorem selP_succ (l : List S24) (p : Nat → Bool) (i : Nat) : selP l p (i + 1) = if p i = true then selP l p i ++ [nd l i] else selP l p i := by
 unfold selP
 rw [List.range_succ, List.filter_append]
 by_cases h : p i = true <;> simp [h]
theorem in_own (T : TreeAt l ds) {j : Nat} (hj : j < l.length) : inB l (nd l j).f0 j = true := by
 obtain ⟨p1, p2, p3, p4⟩ := path_all T j hj
 have := (T.dpos j hj).1
 unfold inB
 rw [decide_eq_true_eq, ← p3]
 have hlt : (pathP l j).length - 1 < (pathP l j).length := by omega
 simp [rd, hlt]
theorem in_step (T : TreeAt l ds) {j k : Nat} (hj : j < l.length) (hk : k < j) (e : (nd l k).f0 = (nd l j).f1) (id : Int) : inB l id j = (inB l id k || decide (id = (nd l j).f0)) := by
 obtain ⟨k', hk', e', _, hp⟩ := path_step T hj (by omega)
 obtain rfl := T.inj (j := k') (k := k) (by omega) (by omega) (e'.trans e.symm)
 unfold inB
 rw [hp]
 rw [Bool.eq_iff_iff]
 simp
theorem in_root (T : TreeAt l ds) (id : Int) : inB l id 0 = decide (id = (nd l 0).f0) := by
 unfold inB
 rw [path_root T]
 rw [Bool.eq_iff_iff]
 simp
def HasInv (l : List S24) (id : Int) (i : Nat) (D : IdSet) : Prop := ∀ x, hasB D x = true ↔ (x = id ∨ ∃ m, m < i ∧ inB l id m = true ∧ x = (nd l m).f0)
theorem hasB_put (D : IdSet) (x y : Int) : hasB (mput D x true) y = (decide (x = y) || hasB D y) := by
 unfold hasB
 rw [mlook_mput]
 by_cases h : x = y <;> simp [h]
theorem spGo_sel (T : TreeAt l ds) (id : Int) (hid : 1 ≤ id) : ∀ (d i : Nat) (D : IdSet), i ≤ l.length → l.length - i ≤ d → HasInv l id i D →
  spGo (l.drop i) D (selP l (fun j => !inB l id j) i) (selP l (inB l id) i) = (selP l (fun j => !inB l id j) l.length, selP l (inB l id) l.length) := by
 intro d
 induction d with
 | zero =>
  intro i D hi hd hD
  obtain rfl : i = l.length := by omega
  rw [List.drop_length]
  rfl
 | succ d ih =>
  intro i D hi hd hD
  by_cases hlt : i < l.length
  ·rw [drop_nd l i hlt]
   have key : (hasB D (nd l i).f0 || hasB D (nd l i).f1) = inB l id i := by
    have a0 : hasB D (nd l i).f0 = true ↔ (nd l i).f0 = id := by
     rw [hD]
     constructor
     ·rintro (h | ⟨m, hm, _, h⟩)
      ·exact h
      ·exact absurd h.symm (T.ids m i hm hlt)
     ·exact .inl
    by_cases h0 : i = 0
    ·subst h0
     have a1 : hasB D (nd l 0).f1 = false := by
      rw [Bool.eq_false_iff, Ne, hD, T.root.1]
      rintro (h | ⟨m, hm, _⟩) <;> omega
     rw [a1, Bool.or_false, in_root T, Bool.eq_iff_iff, a0, decide_eq_true_eq]
     exact eq_comm
    ·obtain ⟨k, hk, e, _, _⟩ := T.par i hlt (by omega)
     have a1 : hasB D (nd l i).f1 = true ↔ inB l id k = true := by
      rw [hD, ← e]
      constructor
      ·rintro (h | ⟨m, hm, hm2, h⟩)
       ·rw [← h]; exact in_own T (by omega)
       ·obtain rfl := T.inj (j := k) (k := m) (by omega) (by omega) h
        exact hm2
      ·exact fun h => .inr ⟨k, hk, h, rfl⟩
     rw [in_step T hlt hk e id, Bool.eq_iff_iff, Bool.or_eq_true, Bool.or_eq_true, a0, a1, decide_eq_true_eq]
     constructor
     ·rintro (h | h)
      ·exact .inr h.symm
      ·exact .inl h
     ·rintro (h | h)
      ·exact .inr h
      ·exact .inl h.symm
   simp only [spGo]
   rw [key]
   by_cases hb : inB l id i = true
   ·rw [if_pos hb]
    have e1 : selP l (fun j => !inB l id j) (i + 1) = selP l (fun j => !inB l id j) i := by rw [selP_succ, if_neg (by simp [hb])]
    have e2 : selP l (inB l id) (i + 1) = selP l (inB l id) i ++ [nd l i] := by rw [selP_succ, if_pos hb]
    rw [← e1, ← e2]
    refine ih (i + 1) _ hlt (by omega) (fun x => ?_)
    rw [hasB_put, Bool.or_eq_true, decide_eq_true_eq, hD]
    constructor
    ·rintro (h | h | ⟨m, hm, hm2, h⟩)
     ·exact .inr ⟨i, by omega, hb, h.symm⟩
     ·exact .inl h
     ·exact .inr ⟨m, by omega, hm2, h⟩
    ·rintro (h | ⟨m, hm, hm2, h⟩)
     ·exact .inr (.inl h)
     ·by_cases e : m = i
      ·subst e; exact .inl h.symm
      ·exact .inr (.inr ⟨m, by omega, hm2, h⟩)
   ·rw [if_neg hb]
    have e1 : selP l (fun j => !inB l id j) (i + 1) = selP l (fun j => !inB l id j) i ++ [nd l i] := by rw [selP_succ, if_pos (by simp [hb])]
    have e2 : selP l (inB l id) (i + 1) = selP l (inB l id) i := by rw [selP_succ, if_neg hb]
    rw [← e1, ← e2]
    refine ih (i + 1) _ hlt (by omega) (fun x => ?_)
    rw [hD]
    constructor
    ·rintro (h | ⟨m, hm, hm2, h⟩)
     ·exact .inl h
     ·exact .inr ⟨m, by omega, hm2, h⟩
    ·rintro (h | ⟨m, hm, hm2, h⟩)
     ·exact .inl h
     ·by_cases e : m = i
      ·subst e; exact absurd hm2 hb
      ·exact .inr ⟨m, by omega, hm2, h⟩
  ·obtain rfl : i = l.length := by omega
   rw [List.drop_length]
   rfl
theorem split_sel (T : TreeAt l ds) (id : Int) (hid : 1 ≤ id) : splitP l id = (selP l (fun j => !inB l id j) l.length, selP l (inB l id) l.length) := by
 have := spGo_sel T id hid l.length 0 [(id, true)] (by omega) (by omega) (fun x => by
  have e : hasB [(id, true)] x = decide (id = x) := by
   unfold hasB
   rw [mlook_cons, mlook_nil]
   by_cases h : id = x <;> simp [h]
  rw [e, decide_eq_true_eq]
  constructor
  ·exact fun h => .inl h.symm
  ·rintro (h | ⟨m, hm, _⟩)
   ·exact h.symm
   ·omega)
 simpa [splitP, selP] using this
end Go.Proofs.Ytpafhhgoldenoaa.P
end
section
namespace Go.Proofs.Ytpafhhgoldenoaa.P
open Go.RowKit Go.Proofs.YtpafhhgoldenoaaW.PrintWords Go.Proofs.YtpafhhgoldenoaaW.PrintLast Go.Proofs.YtpafhhgoldenoaaW.PrintMore
attribute [local go_sem] max2_int min2_int max_two min_two max_three min_three max_four min_four
set_option linter.unusedVariables false
set_option linter.unusedSimpArgs false
def formeref10_Has.l0 : Nat → List Int → Int → Int → Option (Bool)
 | 0, _, _, _ => none
 | k + 1, x0, x1, x5 => if x5 < (x0.length : Int) then (if 0 ≤ x5 then (if (rd x0 x5) = x1 then (some true) else (formeref10_Has.l0 k x0 x1 (wrap64 (x5 + 1)))) else (none)) else (some false)
def formeref10_Has.f (k : Nat) (l0 : List Int) (a1 : Int) : Option (Bool) := formeref10_Has.l0 k l0 a1 0
end Go.Proofs.Ytpafhhgoldenoaa.P
end
section
namespace Go.Proofs.Ytpafhhgoldenoaa.P
open Go.RowKit Go.Proofs.YtpafhhgoldenoaaW.PrintWords Go.Proofs.YtpafhhgoldenoaaW.PrintLast Go.Proofs.YtpafhhgoldenoaaW.PrintMore
attribute [local go_sem] max2_int min2_int max_two min_two max_three min_three max_four min_four
set_option linter.unusedVariables false
set_option linter.unusedSimpArgs false
def formeref10_Children.l0 : Nat → List (S24) → Int → List Int → Int → Option (List Int)
 | 0, _, _, _, _ => none
 | k + 1, x0, x1, x5, x6 => if x6 < (x0.length : Int) then (if 0 ≤ x6 then (if ((rd_T24 x0 x6).f1) = x1 then (if x5.length < 17592186044416 then (formeref10_Children.l0 k x0 x1 (x5 ++ [(rd_T24 x0 x6).f0]) (wrap64 (x6 + 1))) else (none)) else (formeref10_Children.l0 k x0 x1 x5 (wrap64 (x6 + 1)))) else (none)) else (some x5)
def formeref10_Children.f (k : Nat) (l0 : List (S24)) (a1 : Int) : Option (List Int) := formeref10_Children.l0 k l0 a1 ([] : List Int) 0
end Go.Proofs.Ytpafhhgoldenoaa.P
end
section
namespace Go.Proofs.Ytpafhhgoldenoaa.P
open Go.RowKit Go.Proofs.YtpafhhgoldenoaaW.PrintWords Go.Proofs.YtpafhhgoldenoaaW.PrintLast Go.Proofs.YtpafhhgoldenoaaW.PrintMore
open Go.Proofs.Ytpafhhgoldenoaa.XM
set_option linter.unusedVariables false
set_option linter.unusedSimpArgs false
theorem refHas_go (p : List Int) (x : Int) (hp : p.length ≤ 1000000) : ∀ (d i : Nat), i ≤ p.length → p.length - i ≤ d → Ev (fun k => formeref10_Has.l0 k p x i) (decide (x ∈ p.drop i)) := by
 intro d
 induction d with
 | zero =>
  intro i hi hd
  refine Ev.up ?_
  simp only [formeref10_Has.l0]
  refine Ev.els (by omega) (Ev.const ?_)
  rw [List.drop_eq_nil_of_le (by omega)]
  simp
 | succ d ih =>
  intro i hi hd
  refine Ev.up ?_
  simp only [formeref10_Has.l0]
  by_cases hlt : i < p.length
  ·refine Ev.thn (by omega) (Ev.thn (by omega) ?_)
   have e : rd p (i : Int) = p[i] := by simp [rd, hlt]
   rw [e, List.drop_eq_getElem_cons hlt]
   by_cases he : p[i] = x
   ·refine Ev.thn he (Ev.const ?_)
    simp [he]
   ·refine Ev.els he ?_
    rw [w64n i (by omega)]
    have := ih (i + 1) hlt (by omega)
    have e2 : decide (x ∈ p[i] :: p.drop (i + 1)) = decide (x ∈ p.drop (i + 1)) := by
     generalize p.drop (i + 1) = U
     rw [Bool.eq_iff_iff, decide_eq_true_eq, decide_eq_true_eq, List.mem_cons]
     exact ⟨fun c => c.elim (fun c => absurd c.symm he) (fun c => c), .inr⟩
    rw [e2]
    exact this
  ·refine Ev.els (by omega) (Ev.const ?_)
   rw [List.drop_eq_nil_of_le (by omega)]
   simp
theorem refHas (p : List Int) (x : Int) (hp : p.length ≤ 1000000) : Ev (fun k => formeref10_Has.f k p x) (decide (x ∈ p)) := by
 simpa [formeref10_Has.f] using refHas_go p x hp p.length 0 (by omega) (by omega)
theorem refSame_go (a : List S24) (ha : a.length ≤ 1000000) : ∀ (d i : Nat), i ≤ a.length → a.length - i ≤ d → Ev (fun k => formeref10_Same.l0 k a a i) true := by
 intro d
 induction d with
 | zero =>
  intro i hi hd
  refine Ev.up ?_
  simp only [formeref10_Same.l0]
  exact Ev.els (by omega) (Ev.now _)
 | succ d ih =>
  intro i hi hd
  refine Ev.up ?_
  simp only [formeref10_Same.l0]
  by_cases hlt : i < a.length
  ·refine Ev.thn (by omega) (Ev.thn (by omega) (Ev.thn (by omega) (Ev.els (by simp) ?_)))
   rw [w64n i (by omega)]
   exact ih (i + 1) hlt (by omega)
  ·exact Ev.els (by omega) (Ev.now _)
theorem refSame (a : List S24) (ha : a.length ≤ 1000000) : Ev (fun k => formeref10_Same.f k a a) true := by
 simp only [formeref10_Same.f]
 exact Ev.thn trivial (refSame_go a ha a.length 0 (by omega) (by omega))
theorem refChildren_go (l : List S24) (a : Int) (hl : l.length ≤ 4000) : ∀ (d i : Nat) (acc : List Int), i ≤ l.length → l.length - i ≤ d → acc.length ≤ i → Ev (fun k => formeref10_Children.l0 k l a acc i) (acc ++ kidsL (l.drop i) a) := by
 intro d
 induction d with
 | zero =>
  intro i acc hi hd ha
  refine Ev.up ?_
  simp only [formeref10_Children.l0]
  refine Ev.els (by omega) (Ev.const ?_)
  rw [List.drop_eq_nil_of_le (by omega)]
  simp [kidsL]
 | succ d ih =>
  intro i acc hi hd ha
  refine Ev.up ?_
  simp only [formeref10_Children.l0]
  by_cases hlt : i < l.length
  ·refine Ev.thn (by omega) (Ev.thn (by omega) ?_)
   rw [drop_nd l i hlt]
   by_cases he : (nd l i).f1 = a
   ·refine Ev.thn he (Ev.thn (by omega) ?_)
    rw [w64n i (by omega)]
    have := ih (i + 1) (acc ++ [(nd l i).f0]) hlt (by omega) (by simp; omega)
    have e : acc ++ kidsL (nd l i :: l.drop (i + 1)) a = acc ++ [(nd l i).f0] ++ kidsL (l.drop (i + 1)) a := by
     generalize l.drop (i + 1) = U
     simp [kidsL, he]
    rw [e]
    exact this
   ·refine Ev.els he ?_
    rw [w64n i (by omega)]
    have := ih (i + 1) acc hlt (by omega) (by omega)
    have e : acc ++ kidsL (nd l i :: l.drop (i + 1)) a = acc ++ kidsL (l.drop (i + 1)) a := by
     generalize l.drop (i + 1) = U
     simp [kidsL, he]
    rw [e]
    exact this
  ·refine Ev.els (by omega) (Ev.const ?_)
   rw [List.drop_eq_nil_of_le (by omega)]
   simp [kidsL]
theorem refChildren (l : List S24) (a : Int) (hl : l.length ≤ 4000) : Ev (fun k => formeref10_Children.f k l a) (kidsL l a) := by
 simpa [formeref10_Children.f] using refChildren_go l a hl l.length 0 [] (by omega) (by omega) (by simp)
end Go.Proofs.Ytpafhhgoldenoaa.P
end
section
namespace Go.Proofs.Ytpafhhgoldenoaa.P
open Go.RowKit Go.Proofs.YtpafhhgoldenoaaW.PrintWords Go.Proofs.YtpafhhgoldenoaaW.PrintLast Go.Proofs.YtpafhhgoldenoaaW.PrintMore
attribute [local go_sem] max2_int min2_int max_two min_two max_three min_three max_four min_four
set_option linter.unusedVariables false
set_option linter.unusedSimpArgs false
def formeref10_Way.l0 : Nat → List (S24) → Int → List Int → Option (List Int)
 | 0, _, _, _ => none
 | k + 1, x0, x1, x5 => if x1 = 0 then (some x5) else ((some (([x1] : List Int) : List Int)).bind fun y271 => (if y271.length + x5.length < 17592186044416 then ((formeref10_Index.f k x0 x1).bind fun t277 => (if 0 ≤ t277 then (if t277 < (x0.length : Int) then (formeref10_Way.l0 k x0 ((rd_T24 x0 t277).f1) (y271 ++ x5)) else (none)) else (none))) else (none)))
def formeref10_Way.f (k : Nat) (l0 : List (S24)) (a1 : Int) : Option (List Int) := formeref10_Way.l0 k l0 a1 ([] : List Int)
end Go.Proofs.Ytpafhhgoldenoaa.P
end
section
namespace Go.Proofs.Ytpafhhgoldenoaa.P
open Go.RowKit Go.Proofs.YtpafhhgoldenoaaW.PrintWords Go.Proofs.YtpafhhgoldenoaaW.PrintLast Go.Proofs.YtpafhhgoldenoaaW.PrintMore
attribute [local go_sem] max2_int min2_int max_two min_two max_three min_three max_four min_four
set_option linter.unusedVariables false
set_option linter.unusedSimpArgs false
def formeref10_put.f (k : Nat) (l0 : List (S24)) (l1 : List (S24)) (a2 : Int) : Option ((List (S24))) := if a2 = 0 then (if 0 ≤ (l0.length : Int) then (if (l0.length : Int) ≤ (l0.length : Int) then ((some (l0.take ((l0.length : Int) : Int).toNat : List (S24))).bind fun y286 => (if ([] : List (S24)).length + y286.length < 2932031007402 then ((some (([] : List (S24)) ++ y286 : List (S24))).bind fun y290 => (if y290.length + l1.length < 2932031007402 then ((some (y290 ++ l1 : List (S24))).bind fun y293 => ((some (l0.drop ((l0.length : Int) : Int).toNat : List (S24))).bind fun y296 => (if y293.length + y296.length < 2932031007402 then (some (y293 ++ y296)) else (none)))) else (none))) else (none))) else (none)) else (none)) else ((formeref10_Index.f k l0 a2).bind fun t303 => (if 0 ≤ t303 then (if t303 ≤ (l0.length : Int) then ((some (l0.take (t303 : Int).toNat : List (S24))).bind fun y304 => (if ([] : List (S24)).length + y304.length < 2932031007402 then ((some (([] : List (S24)) ++ y304 : List (S24))).bind fun y308 => (if y308.length + l1.length < 2932031007402 then ((some (y308 ++ l1 : List (S24))).bind fun y311 => ((some (l0.drop (t303 : Int).toNat : List (S24))).bind fun y314 => (if y311.length + y314.length < 2932031007402 then (some (y311 ++ y314)) else (none)))) else (none))) else (none))) else (none)) else (none)))
end Go.Proofs.Ytpafhhgoldenoaa.P
end
section
namespace Go.Proofs.Ytpafhhgoldenoaa.P
open Go.RowKit Go.Proofs.YtpafhhgoldenoaaW.PrintWords Go.Proofs.YtpafhhgoldenoaaW.PrintLast Go.Proofs.YtpafhhgoldenoaaW.PrintMore
attribute [local go_sem] max2_int min2_int max_two min_two max_three min_three max_four min_four
set_option linter.unusedVariables false
set_option linter.unusedSimpArgs false
mutual
def formeref10_Insert.j0 : Nat → List (S24) → Int → Bool → Int → Int → Int → Int → ByteArray → Option ((List (S24)) × Int)
 | 0, _, _, _, _, _, _, _, _ => none
 | k + 1, x0, x2, x34, x322000, x322001, x322002, x322003, x322004 => if x34 = true then (some (([] : List (S24)), 1)) else ((formeref10_Index.f k x0 x322000).bind fun t325 => (if t325 ≥ 0 then (some (([] : List (S24)), 5)) else ((formeref10_Index.f k x0 x322001).bind fun t326 => (if t326 < 0 then (some (([] : List (S24)), 4)) else (if x2 = 0 then (formeref10_Insert.j1 k x0 x2 t326 false x322000 x322001 x322002 x322003 x322004) else ((formeref10_Children.f k x0 x322001).bind fun t327 => ((formeref10_Has.f k t327 x2).bind fun t330 => (formeref10_Insert.j1 k x0 x2 t326 (!t330) x322000 x322001 x322002 x322003 x322004))))))))
def formeref10_Insert.j1 : Nat → List (S24) → Int → Int → Bool → Int → Int → Int → Int → ByteArray → Option ((List (S24)) × Int)
 | 0, _, _, _, _, _, _, _, _, _ => none
 | k + 1, x0, x2, x10, x56, x322000, x322001, x322002, x322003, x322004 => if x56 = true then (some (([] : List (S24)), 24)) else (if 0 ≤ x10 then (if x10 < (x0.length : Int) then ((formeref10_Stands.f x322002 ((rd_T24 x0 x10).f2)).bind fun t332 => (if t332 = true then (if (x0.length : Int) = 4000 then (some (([] : List (S24)), 2)) else ((formeref10_Way.f k x0 x322001).bind fun t333 => (if (t333.length : Int) = 30 then (some (([] : List (S24)), 2)) else ((formeref10_put.f k x0 (([(⟨x322000, x322001, x322002, x322003, x322004⟩ : S24)] : List (S24))) x2).bind fun t339 => (some (t339, 0)))))) else (some (([] : List (S24)), 25)))) else (none)) else (none))
end
def formeref10_Insert.f (k : Nat) (l0 : List (S24)) (a1_0 : Int) (a1_1 : Int) (a1_2 : Int) (a1_3 : Int) (a1_4 : ByteArray) (a2 : Int) : Option ((List (S24)) × Int) := (formeref10_Valid.f k l0).bind fun t322 => ((formeref10_Node.f k a1_0 a1_1 a1_2 a1_3 a1_4).bind fun t323 => (if t322 = true then (if a2 = 0 then (if t323 = true then (formeref10_Insert.j0 k l0 a2 (a1_1 == 0) a1_0 a1_1 a1_2 a1_3 a1_4) else (formeref10_Insert.j0 k l0 a2 true a1_0 a1_1 a1_2 a1_3 a1_4)) else ((formeref10_ID.f a2).bind fun t324 => (if t324 = true then (if t323 = true then (formeref10_Insert.j0 k l0 a2 (a1_1 == 0) a1_0 a1_1 a1_2 a1_3 a1_4) else (formeref10_Insert.j0 k l0 a2 true a1_0 a1_1 a1_2 a1_3 a1_4)) else (formeref10_Insert.j0 k l0 a2 true a1_0 a1_1 a1_2 a1_3 a1_4)))) else (formeref10_Insert.j0 k l0 a2 true a1_0 a1_1 a1_2 a1_3 a1_4)))
end Go.Proofs.Ytpafhhgoldenoaa.P
end
section
namespace Go.Proofs.Ytpafhhgoldenoaa.P
open Go.RowKit Go.Proofs.YtpafhhgoldenoaaW.PrintWords Go.Proofs.YtpafhhgoldenoaaW.PrintLast Go.Proofs.YtpafhhgoldenoaaW.PrintMore
open Go.Proofs.Ytpafhhgoldenoaa.XM
set_option linter.unusedVariables false
set_option linter.unusedSimpArgs false
variable {l : List S24} {ds : Nat → Int} {D : Places}
theorem kids_ev2 (l : List S24) (a : Int) (hl : l.length ≤ 4000) : Ev (fun k => tree_kids.f k l a) (kidsL l a) := by
 refine ⟨l.length + 1, fun k hk => ?_⟩
 unfold tree_kids.f
 exact kids_go l a hl l.length k [] 0 (by omega) (by omega) (by simp) (by omega)
theorem ix_places (T : TreeAt l ds) (P : PAt l ds l.length D) (x : Int) : (∃ j, j < l.length ∧ (nd l j).f0 = x ∧ mlook D x = some ((j : Int), ds j) ∧ ixFind (fun n => decide (n.f0 = x)) l = (j : Int)) ∨ ((∀ j, j < l.length → (nd l j).f0 ≠ x) ∧ mlook D x = none ∧ ixFind (fun n => decide (n.f0 = x)) l = -1) := by
 rcases ixFind_cases (fun n => decide (n.f0 = x)) l with ⟨k, hk, e1, e2, e3⟩ | ⟨hn, e3⟩
 ·left
  have e : (nd l k).f0 = x := by simpa using e1
  exact ⟨k, hk, e, by rw [← e]; exact P.1 k hk, e3⟩
 ·right
  have e : ∀ j, j < l.length → (nd l j).f0 ≠ x := fun j hj => by simpa using hn j hj
  exact ⟨e, P.2 x e, e3⟩
theorem ix_at (T : TreeAt l ds) {j : Nat} (hj : j < l.length) : ixFind (fun n => decide (n.f0 = (nd l j).f0)) l = (j : Int) :=
 ixFind_at hj (by simp) (fun m hm => by simpa using T.ids m j hm hj)
def Sz (l : List S24) : Prop := ∀ j, j < l.length → (nd l j).f4.size ≤ 9223372036854775807
def kidsR (l : List S24) (a : Int) : List Int × Int := if (findP l a).2.2 = 0 then (if (findP l a).2.1 = true then (kidsL l a, 0) else ([], 4)) else ([], (findP l a).2.2)
theorem find_len {a : Int} (h : (findP l a).2.2 = 0) : ∃ D ds, placesP l = some D ∧ TreeAt l ds ∧ PAt l ds l.length D ∧ idB a = true := by
 unfold findP at h
 cases hD : placesP l with
 | none => rw [hD] at h; simp at h
 | some D =>
  obtain ⟨ds, T, P⟩ := placesP_tree hD
  refine ⟨D, ds, rfl, T, P, ?_⟩
  rw [hD] at h
  by_cases ha : idB a = true
  ·exact ha
  ·simp [ha] at h
theorem Kids_ev (l : List S24) (a : Int) : Ev (fun k => tree_Kids.f k l a) (kidsR l a) := by
 unfold tree_Kids.f tree_get.f tree_Find.f kidsR
 simp only [Option.bind_some]
 by_cases h0 : (findP l a).2.2 = 0
 ·obtain ⟨D, ds, hD, T, P, _⟩ := find_len h0
  by_cases hf : (findP l a).2.1 = true
  ·simp only [h0, hf, if_true, Option.bind_some]
   exact Ev.bind (kids_ev2 l a T.len) (Ev.now _)
  ·simp only [h0, hf, if_true, if_false, Option.bind_some, Bool.false_eq_true]
   exact Ev.els (by simp) (Ev.now _)
 ·simp only [h0, if_false, Option.bind_some]
  exact Ev.now _
theorem refWay_go (T : TreeAt l ds) : ∀ (j : Nat), j < l.length → ∀ acc : List Int, acc.length + j ≤ 10000 → Ev (fun k => formeref10_Way.l0 k l (nd l j).f0 acc) (pathP l j ++ acc) := by
 intro j
 induction j using Nat.strongRecOn with
 | ind j ih =>
  intro hj acc ha
  have hid := T.id hj
  refine Ev.up ?_
  simp only [formeref10_Way.l0, Option.bind_some]
  refine Ev.els (by omega) (Ev.thn (by simp; omega) (Ev.bind (refIndex l _ T.len) ?_))
  rw [ix_at T hj]
  refine Ev.thn (by omega) (Ev.thn (by omega) ?_)
  by_cases h0 : j = 0
  ·subst h0
   have hr : (rd_T24 l ((0 : Nat) : Int)).f1 = 0 := T.root.1
   rw [hr, path_root T]
   refine Ev.up ?_
   simp only [formeref10_Way.l0]
   exact Ev.thn trivial (Ev.now _)
  ·obtain ⟨k, hk, e, _, hp⟩ := path_step T hj (by omega)
   have e' : (rd_T24 l (j : Int)).f1 = (nd l k).f0 := e.symm
   rw [e', hp]
   have := ih k hk (by omega) ([(nd l j).f0] ++ acc) (by simp; omega)
   simpa using this
theorem refWay (T : TreeAt l ds) {j : Nat} (hj : j < l.length) : Ev (fun k => formeref10_Way.f k l (nd l j).f0) (pathP l j) := by
 have hl := T.len
 have := refWay_go T j hj [] (by simp; omega)
 simpa [formeref10_Way.f] using this
theorem refPut (l more : List S24) (b : Int) (r : List S24) (h1 : l.length ≤ 4000) (h2 : more.length ≤ 4000) (h : putP l more b = some r) : Ev (fun k => formeref10_put.f k l more b) r := by
 unfold putP at h
 unfold formeref10_put.f
 simp only [Option.bind_some, List.nil_append]
 by_cases hb : b = 0
 ·rw [if_pos hb] at h
  obtain rfl := Option.some.inj h
  refine Ev.thn hb (Ev.thn (by omega) (Ev.thn (by omega) (Ev.thn (by simp; omega) (Ev.thn (by simp; omega) (Ev.thn (by simp; omega) (Ev.const ?_))))))
  simp
 ·rw [if_neg hb] at h
  refine Ev.els hb (Ev.bind (refIndex l b h1) ?_)
  cases e : l.findIdx? (fun n => decide (n.f0 = b)) with
  | none => rw [e] at h; simp at h
  | some i =>
   rw [e] at h
   simp only [Option.some.injEq] at h
   subst h
   have hi : i < l.length := (List.findIdx?_eq_some_iff_getElem.1 e).1
   have hx : ixFind (fun n => decide (n.f0 = b)) l = (i : Int) := by unfold ixFind; rw [e]
   rw [hx]
   refine Ev.thn (by omega) (Ev.thn (by omega) (Ev.thn (by simp; omega) (Ev.thn (by simp; omega) (Ev.thn (by simp; omega) (Ev.const ?_)))))
   simp
end Go.Proofs.Ytpafhhgoldenoaa.P
end
section
namespace Go.Proofs.Ytpafhhgoldenoaa.P
open Go.RowKit Go.Proofs.YtpafhhgoldenoaaW.PrintWords Go.Proofs.YtpafhhgoldenoaaW.PrintLast Go.Proofs.YtpafhhgoldenoaaW.PrintMore
open Go.Proofs.Ytpafhhgoldenoaa.XM
set_option linter.unusedVariables false
set_option linter.unusedSimpArgs false
variable {l : List S24} {ds : Nat → Int} {D : Places}
theorem putP_len {l more : List S24} {b : Int} {r : List S24} (h : putP l more b = some r) : r.length = l.length + more.length := by
 unfold putP at h
 split at h
 ·obtain rfl := Option.some.inj h; simp
 ·split at h
  ·rename_i i e
   obtain rfl := Option.some.inj h
   have hi : i < l.length := (List.findIdx?_eq_some_iff_getElem.1 e).1
   simp; omega
  ·cases h
theorem nd_mem {j : Nat} (hj : j < l.length) : nd l j ∈ l := by
 have e : nd l j = l[j] := by simp [rd_T24, hj]
 rw [e]; exact List.getElem_mem hj
theorem mem_nd {x : S24} (h : x ∈ l) : ∃ j, j < l.length ∧ nd l j = x := by
 obtain ⟨j, hj, e⟩ := List.getElem_of_mem h
 exact ⟨j, hj, by rw [← e]; simp [rd_T24, hj]⟩
theorem kid_mem {a b : Int} : b ∈ kidsL l a ↔ ∃ j, j < l.length ∧ (nd l j).f1 = a ∧ (nd l j).f0 = b := by
 unfold kidsL
 rw [List.mem_map]
 constructor
 ·rintro ⟨x, hx, e⟩
  obtain ⟨h1, h2⟩ := List.mem_filter.1 hx
  obtain ⟨j, hj, rfl⟩ := mem_nd h1
  exact ⟨j, hj, by simpa using h2, e⟩
 ·rintro ⟨j, hj, e1, e2⟩
  exact ⟨nd l j, List.mem_filter.2 ⟨nd_mem hj, by simpa using e1⟩, e2⟩
theorem put_some (l more : List S24) (b : Int) (h : b = 0 ∨ ∃ j, j < l.length ∧ (nd l j).f0 = b) : ∃ r, putP l more b = some r := by
 unfold putP
 by_cases hb : b = 0
 ·rw [if_pos hb]; exact ⟨_, rfl⟩
 ·rw [if_neg hb]
  obtain ⟨j, hj, e⟩ := h.resolve_left hb
  cases hf : l.findIdx? (fun n => decide (n.f0 = b)) with
  | some i => exact ⟨_, rfl⟩
  | none =>
   have := List.findIdx?_eq_none_iff.1 hf _ (nd_mem hj)
   simp at this
   exact absurd e this
theorem ins_j0 (l : List S24) (b a0 a1 a2 a3 : Int) (a4 : ByteArray) : Ev (fun k => formeref10_Insert.j0 k l b true a0 a1 a2 a3 a4) ([], 1) := by
 refine Ev.up ?_
 simp only [formeref10_Insert.j0]
 exact Ev.thn trivial (Ev.now _)
theorem refInsert (l : List S24) (hs : Sz l) (n : S24) (hn : n.f4.size ≤ 9223372036854775807) (b : Int) :
  ∃ v, insertP l n b = some v ∧ v.1.length ≤ 5000 ∧ Ev (fun k => formeref10_Insert.f k l n.f0 n.f1 n.f2 n.f3 n.f4 b) v := by
 have hv := refValid l hs
 have hf := refNode n hn
 unfold insertP formeref10_Insert.f
 cases hD : placesP l with
 | none =>
  rw [hD] at hv
  exact ⟨([], 1), rfl, by simp, Ev.bind hv (Ev.bind hf (Ev.els (by simp) (ins_j0 l b _ _ _ _ _)))⟩
 | some D =>
  rw [hD] at hv
  obtain ⟨ds, T, P⟩ := placesP_tree hD
  have hl := T.len
  simp only
  by_cases hb : b ≠ 0 ∧ idB b = false
  ·rw [if_pos hb]
   refine ⟨([], 1), rfl, by simp, Ev.bind hv (Ev.bind hf (Ev.thn rfl (Ev.els hb.1 (Ev.obind (refID_f b) (Ev.els (by rw [hb.2]; simp) (ins_j0 l b _ _ _ _ _))))))⟩
  rw [if_neg hb]
  have road : ∀ v, (formedB n = true → Ev (fun k => formeref10_Insert.j0 k l b (n.f1 == 0) n.f0 n.f1 n.f2 n.f3 n.f4) v) → (formedB n = false → Ev (fun k => formeref10_Insert.j0 k l b true n.f0 n.f1 n.f2 n.f3 n.f4) v) →
    Ev (fun k => (formeref10_Valid.f k l).bind fun t322 => ((formeref10_Node.f k n.f0 n.f1 n.f2 n.f3 n.f4).bind fun t323 => (if t322 = true then (if b = 0 then (if t323 = true then (formeref10_Insert.j0 k l b (n.f1 == 0) n.f0 n.f1 n.f2 n.f3 n.f4) else (formeref10_Insert.j0 k l b true n.f0 n.f1 n.f2 n.f3 n.f4)) else ((formeref10_ID.f b).bind fun t324 => (if t324 = true then (if t323 = true then (formeref10_Insert.j0 k l b (n.f1 == 0) n.f0 n.f1 n.f2 n.f3 n.f4) else (formeref10_Insert.j0 k l b true n.f0 n.f1 n.f2 n.f3 n.f4)) else (formeref10_Insert.j0 k l b true n.f0 n.f1 n.f2 n.f3 n.f4)))) else (formeref10_Insert.j0 k l b true n.f0 n.f1 n.f2 n.f3 n.f4)))) v := by
   intro v h1 h2
   refine Ev.bind hv (Ev.bind hf (Ev.thn rfl ?_))
   have inner : Ev (fun k => if formedB n = true then (formeref10_Insert.j0 k l b (n.f1 == 0) n.f0 n.f1 n.f2 n.f3 n.f4) else (formeref10_Insert.j0 k l b true n.f0 n.f1 n.f2 n.f3 n.f4)) v :=
    Ev.ite h1 (fun c => h2 (by simpa using c))
   by_cases h0 : b = 0
   ·exact Ev.thn h0 inner
   ·refine Ev.els h0 (Ev.obind (refID_f b) (Ev.thn ?_ inner))
    cases hi : idB b with
    | true => rfl
    | false => exact absurd ⟨h0, hi⟩ hb
  by_cases hfm : formedB n = false
  ·rw [if_pos hfm]
   exact ⟨([], 1), rfl, by simp, road _ (fun c => by rw [hfm] at c; cases c) (fun _ => ins_j0 l b _ _ _ _ _)⟩
  rw [if_neg hfm]
  by_cases hp0 : n.f1 = 0
  ·rw [if_pos hp0]
   exact ⟨([], 1), rfl, by simp, road _ (fun _ => by rw [show (n.f1 == 0) = true by simpa using hp0]; exact ins_j0 l b _ _ _ _ _) (fun c => absurd c hfm)⟩
  rw [if_neg hp0]
  have road2 : ∀ v, Ev (fun k => formeref10_Insert.j0 k l b false n.f0 n.f1 n.f2 n.f3 n.f4) v → _ := fun v h => road v (fun _ => by rw [show (n.f1 == 0) = false by simpa using hp0]; exact h) (fun c => absurd c hfm)
  have hI := refIndex l n.f0 hl
  rcases ix_places T P n.f0 with ⟨j, hj, e, hm, hi⟩ | ⟨hno, hm, hi⟩
  ·rw [hm]
   refine ⟨([], 5), by simp, by simp, road2 _ (Ev.up ?_)⟩
   simp only [formeref10_Insert.j0]
   refine Ev.els (by simp) (Ev.bind hI ?_)
   rw [hi]
   exact Ev.thn (by omega) (Ev.now _)
  rw [hm]
  simp only [Option.isSome_none, Bool.false_eq_true, if_false]
  have hI2 := refIndex l n.f1 hl
  rcases ix_places T P n.f1 with ⟨k, hk, e2, hm2, hi2⟩ | ⟨hno2, hm2, hi2⟩
  case inr =>
   rw [hm2]
   refine ⟨([], 4), rfl, by simp, road2 _ (Ev.up ?_)⟩
   simp only [formeref10_Insert.j0]
   refine Ev.els (by simp) (Ev.bind hI ?_)
   rw [hi]
   refine Ev.els (by omega) (Ev.bind hI2 ?_)
   rw [hi2]
   exact Ev.thn (by omega) (Ev.now _)
  rw [hm2]
  simp only
  have hkl := kidsL_len l n.f1
  have road3 : ∀ v, Ev (fun q => formeref10_Insert.j1 q l b (k : Int) (decide (b ≠ 0 ∧ b ∉ kidsL l n.f1)) n.f0 n.f1 n.f2 n.f3 n.f4) v → Ev (fun q => formeref10_Insert.j0 q l b false n.f0 n.f1 n.f2 n.f3 n.f4) v := by
   intro v h
   refine Ev.up ?_
   simp only [formeref10_Insert.j0]
   refine Ev.els (by simp) (Ev.bind hI ?_)
   rw [hi]
   refine Ev.els (by omega) (Ev.bind hI2 ?_)
   rw [hi2]
   refine Ev.els (by omega) ?_
   by_cases h0 : b = 0
   ·refine Ev.thn h0 ?_
    rw [show (decide (b ≠ 0 ∧ b ∉ kidsL l n.f1)) = false by simp [h0]] at h
    exact h
   ·refine Ev.els h0 (Ev.bind (refChildren l n.f1 hl) (Ev.bind (refHas _ b (by omega)) ?_))
    rw [show (decide (b ≠ 0 ∧ b ∉ kidsL l n.f1)) = !decide (b ∈ kidsL l n.f1) by simp [h0]] at h
    exact h
  by_cases hk2 : b ≠ 0 ∧ b ∉ kidsL l n.f1
  ·rw [if_pos hk2]
   refine ⟨([], 24), rfl, by simp, road2 _ (road3 _ (Ev.up ?_))⟩
   simp only [formeref10_Insert.j1]
   exact Ev.thn (by simpa using hk2) (Ev.now _)
  rw [if_neg hk2]
  have hkind : 1 ≤ (nd l k).f2 ∧ (nd l k).f2 ≤ 11 := ((formedB_iff _).1 (T.form k hk)).2.2.1
  have hst := refStands n.f2 (nd l k).f2 hkind.1 hkind.2
  by_cases hsb : standsB n.f2 (rd_T24 l (k : Int)).f2 = false
  ·rw [if_pos hsb]
   refine ⟨([], 25), rfl, by simp, road2 _ (road3 _ (Ev.up ?_))⟩
   simp only [formeref10_Insert.j1]
   exact Ev.els (by simpa using hk2) (Ev.thn (by omega) (Ev.thn (by omega) (Ev.obind hst (Ev.els (by rw [show standsB n.f2 (nd l k).f2 = false from hsb]; simp) (Ev.now _)))))
  rw [if_neg hsb]
  have hst2 : standsB n.f2 (nd l k).f2 = true := by simpa using hsb
  have hway := refWay T hk
  rw [e2] at hway
  have hwl := (path_all T k hk).1
  by_cases hlim : l.length = 4000 ∨ ds k = 30
  ·rw [if_pos hlim]
   refine ⟨([], 2), rfl, by simp, road2 _ (road3 _ (Ev.up ?_))⟩
   simp only [formeref10_Insert.j1]
   refine Ev.els (by simpa using hk2) (Ev.thn (by omega) (Ev.thn (by omega) (Ev.obind hst (Ev.thn hst2 ?_))))
   by_cases h4 : (l.length : Int) = 4000
   ·exact Ev.thn h4 (Ev.now _)
   ·exact Ev.els h4 (Ev.bind hway (Ev.thn (by omega) (Ev.now _)))
  rw [if_neg hlim]
  obtain ⟨r, hr⟩ := put_some l [n] b (by
   by_cases h0 : b = 0
   ·exact .inl h0
   ·right
    have : b ∈ kidsL l n.f1 := by
     by_cases c : b ∈ kidsL l n.f1
     ·exact c
     ·exact absurd ⟨h0, c⟩ hk2
    obtain ⟨j, hj, _, e⟩ := kid_mem.1 this
    exact ⟨j, hj, e⟩)
  have hrl := putP_len hr
  rw [hr]
  refine ⟨(r, 0), rfl, by simp at hrl; simp; omega, road2 _ (road3 _ (Ev.up ?_))⟩
  simp only [formeref10_Insert.j1]
  refine Ev.els (by simpa using hk2) (Ev.thn (by omega) (Ev.thn (by omega) (Ev.obind hst (Ev.thn hst2 (Ev.els (by omega) (Ev.bind hway (Ev.els (by omega) ?_)))))))
  exact Ev.bind (refPut l [n] b r hl (by simp) hr) (Ev.now _)
theorem sel_mem (p : Nat → Bool) (x : S24) : x ∈ selP l p l.length ↔ ∃ j, j < l.length ∧ p j = true ∧ nd l j = x := by
 unfold selP
 simp [and_assoc]
end Go.Proofs.Ytpafhhgoldenoaa.P
end
section
namespace Go.Proofs.Ytpafhhgoldenoaa.P
open Go.RowKit Go.Proofs.YtpafhhgoldenoaaW.PrintWords Go.Proofs.YtpafhhgoldenoaaW.PrintLast Go.Proofs.YtpafhhgoldenoaaW.PrintMore
open Go.Proofs.Ytpafhhgoldenoaa.XM
set_option linter.unusedVariables false
set_option linter.unusedSimpArgs false
abbrev Groups := List (Int × List Int)
def vmap (G : Groups) (V : Int → Value) : List (Int × Value) := G.map (fun p => (p.1, V p.1))
def valAt (G : Groups) (V : Int → Value) (x : Int) : Value := if (mlook G x).isSome = true then V x else .slice none 0 0
def GroupsAt (w : World) (base b : Nat) (G : Groups) (V : Int → Value) : Prop :=
 MapAt (.int .i64) (Value.int .i64) (fun v : Value => v) w b (vmap G V) ∧
 ∀ x xs, mlook G x = some xs → Kd.R (Kd.int .i64) 3 w base (fun k => ∀ y, y ≠ x → (mlook G y).isSome = true → some k ≠ (V y).ownBlock) (V x) xs
theorem mlook_vmap (G : Groups) (V : Int → Value) (x : Int) : mlook (vmap G V) x = (mlook G x).map (fun _ => V x) := by
 unfold vmap
 induction G with
 | nil => rfl
 | cons p G ih =>
  rw [List.map_cons, mlook_cons, mlook_cons, ih]
  by_cases h : p.1 = x
  ·simp [h]
  ·simp [h]
theorem vmap_put (G : Groups) (V : Int → Value) (x : Int) (xs : List Int) (v : Value) : vmap (mput G x xs) (fun k => if k = x then v else V k) = mput (vmap G V) x v := by
 have e : (mlook (vmap G V) x).isSome = (mlook G x).isSome := by rw [mlook_vmap]; cases mlook G x <;> rfl
 unfold mput
 rw [e]
 by_cases h : (mlook G x).isSome = true
 ·rw [if_pos h, if_pos h]
  unfold vmap
  rw [List.map_map, List.map_map]
  refine List.map_congr_left (fun p _ => ?_)
  by_cases hp : p.1 = x
  ·simp [hp]
  ·simp [hp]
 ·rw [if_neg h, if_neg h]
  unfold vmap
  rw [List.map_append]
  congr 1
  ·refine List.map_congr_left (fun p hp => ?_)
   have hne : p.1 ≠ x := by
    intro c
    have h2 : mlook G x = none := by cases hm : mlook G x with | none => rfl | some u => rw [hm] at h; simp at h
    exact (mlook_none_iff G x).1 h2 p hp c
   simp [hne]
  ·simp
theorem GroupsAt.made (w : World) (base : Nat) (V : Int → Value) : GroupsAt (w.alloc (.map #[] 0)) base w.heap.size [] V := ⟨MapAt.made w, fun x xs h => by simp [mlook_nil] at h⟩
theorem GroupsAt.below {w w' : World} {base b : Nat} {G : Groups} {V : Int → Value} (h : GroupsAt w base b G V) (hb : Below w.heap.size w w') : GroupsAt w' base b G V :=
 ⟨h.1.below hb, fun x xs hx => Kd.R_below (h.2 x xs hx) hb⟩
theorem GroupsAt.at {w : World} {base b : Nat} {G : Groups} {V : Int → Value} (h : GroupsAt w base b G V) (x : Int) :
  ((mlook (vmap G V) x).map (fun v : Value => v)).getD (.slice none 0 0) = valAt G V x ∧ Kd.R (Kd.int .i64) 3 w base (fun k => ∀ y, y ≠ x → (mlook G y).isSome = true → some k ≠ (V y).ownBlock) (valAt G V x) ((mlook G x).getD []) := by
 rw [mlook_vmap]
 unfold valAt
 cases hx : mlook G x with
 | none => exact ⟨rfl, Kd.R_nil _ _ _ _ _⟩
 | some xs => exact ⟨rfl, h.2 x xs hx⟩
theorem GroupsAt.fresh {w : World} {base b : Nat} {G : Groups} {V : Int → Value} (h : GroupsAt w base b G V) {k : Nat} (hk : w.heap.size ≤ k) (y : Int) (hy : (mlook G y).isSome = true) : some k ≠ (V y).ownBlock := by
 obtain ⟨xs, hx⟩ := Option.isSome_iff_exists.1 hy
 intro e
 have := Kd.R_lt (h.2 y xs hx) k e.symm
 omega
theorem GroupsAt.step {w w1 w2 : World} {base b : Nat} {G : Groups} {V : Int → Value} {x : Int} {xs : List Int} {v1 : Value} (h : GroupsAt w base b G V)
  (hr : Kd.R (Kd.int .i64) 3 w1 base (fun k => ∀ y, y ≠ x → (mlook G y).isSome = true → some k ≠ (V y).ownBlock) v1 xs) (hg : w.grownBy w1 (valAt G V x).ownBlock)
  (hM : MapAt (.int .i64) (Value.int .i64) (fun v : Value => v) w2 b (mput (vmap G V) x v1)) (hM1 : MapAt (.int .i64) (Value.int .i64) (fun v : Value => v) w1 b (vmap G V)) (hg2 : w1.grownBy w2 (some b)) :
  GroupsAt w2 base b (mput G x xs) (fun k => if k = x then v1 else V k) := by
 refine ⟨by rw [vmap_put]; exact hM, fun z zs hz => ?_⟩
 rw [mlook_mput] at hz
 by_cases e : x = z
 ·subst e
  rw [if_pos rfl] at hz
  obtain rfl := Option.some.inj hz
  have h1 := Kd.R_grown1 hr rfl hg2 (hM1.ne_own (fun k hk => by obtain ⟨_, _, _, q, hq, cells, hc⟩ := (Kd.R_bound hr).1 k hk; rw [show (Kd.int .i64).E = [] from rfl] at hq; simp at hq; subst hq; exact ⟨cells, hc⟩))
  simp only [if_true]
  refine Kd.R_mono h1 (fun k hk y hy hs => ?_)
  rw [if_neg hy]
  rw [mlook_mput, if_neg (fun c => hy c.symm)] at hs
  exact hk y hy hs
 ·rw [if_neg e] at hz
  have h0 := h.2 z zs hz
  have hne : ∀ k, (valAt G V x).ownBlock = some k → some k ≠ (V z).ownBlock := by
   intro k hk
   unfold valAt at hk
   by_cases hx : (mlook G x).isSome = true
   ·rw [if_pos hx] at hk
    exact fun c => h0.1 k c.symm x e hx hk.symm
   ·rw [if_neg hx] at hk
    simp [Value.ownBlock] at hk
  have h1 := Kd.R_grown2 h0 rfl hg hne
  have hM1z := hM1.ne_own (v := V z) (fun k hk => by obtain ⟨_, _, _, q, hq, cells, hc⟩ := (Kd.R_bound h1).1 k hk; rw [show (Kd.int .i64).E = [] from rfl] at hq; simp at hq; subst hq; exact ⟨cells, hc⟩)
  have h2 := Kd.R_grown1 h1 rfl hg2 hM1z
  simp only [if_neg (fun c : z = x => e c.symm)]
  refine ⟨fun k hk y hy hs => ?_, h2.2.imp_ (fun _ _ hp => hp)⟩
  by_cases hyx : y = x
  ·subst hyx
   rw [if_pos rfl]
   intro c
   have hv1 := hr.1 k c.symm z (fun c2 => hy c2.symm) (by rw [hz]; rfl)
   exact hv1 hk.symm
  ·rw [if_neg hyx]
   rw [mlook_mput, if_neg (fun c => hyx c.symm)] at hs
   exact h0.1 k hk y hy hs
end Go.Proofs.Ytpafhhgoldenoaa.P
end
section
namespace Go.Proofs.Ytpafhhgoldenoaa.P
open Go.RowKit Go.Proofs.YtpafhhgoldenoaaW.PrintWords Go.Proofs.YtpafhhgoldenoaaW.PrintLast Go.Proofs.YtpafhhgoldenoaaW.PrintMore
open Go.Proofs.Ytpafhhgoldenoaa.XM
set_option linter.unusedVariables false
set_option linter.unusedSimpArgs false
def chStep (but : Int) (G : Groups) (n : S24) : Groups := if n.f0 = but then G else mput G n.f1 ((mlook G n.f1).getD [] ++ [n.f0])
def chGo (but : Int) : List S24 → Groups → Groups
 | [], G => G
 | n :: r, G => chGo but r (chStep but G n)
def childrenP (l : List S24) (but : Int) : Groups := chGo but l []
theorem zero30 (w : World) : (zeroValue 30).run Try.prog w = .ok (.slice none 0 0) w := by kernel_rfl
theorem drop_ch (l : List S24) (k : Nat) (h : k < l.length) : l.drop k = rd_T24 l k :: l.drop (k + 1) := by
 rw [List.drop_eq_getElem_cons h]
 congr 1
 simp [rd_T24, h]
def children_r.T6 : Bool × List (List Nat × List Nat) := (true, [([], []), ([], []), ([1], [1]), ([], []), ([], []), ([4], [4]), ([3, 5], [3, 5]), ([], []), ([7], [7]), ([8], [8]), ([6, 9], [6, 9]), ([0, 2, 10, 10, 0, 1, 2, 3, 4, 5, 6, 7, 8, 9, 10], [0, 2, 10])])
def children_r.B6 : List Nat := [0, 0, 2, 0, 0, 16, 56, 0, 128, 384, 1016, 2047]
theorem children_r.tab6 : rtab .any (opsOf Try.f52 6) = children_r.T6 := by kernel_rfl
theorem children_r.bits6 : waitsOk children_r.T6.2 children_r.B6 = true := by kernel_rfl
set_option maxHeartbeats 4000000 in
set_option maxRecDepth 100000 in
theorem children_calls (A : Option Addr) (c : Nat) (l : List S24) (but : Int) (w : World) (hr : Kd.C k24 w A l.length l) (hc : l.length ≤ c) (hl : l.length ≤ 4000) :
  Calls Try.prog 52 #[.slice A l.length c, .int .i64 but] w fun e w' => ∃ V, e = .returned (.map (some w.heap.size)) ∧ GroupsAt w' w.heap.size w.heap.size (childrenP l but) V ∧ (∀ x xs, mlook (childrenP l but) x = some xs → xs.length ≤ 4000) ∧ Below w.heap.size w w' := by
 have hu24 := Try.underlying24
 have HR := Aside0.mk hr
 have HL := Aside0.mk hl
 clear hr
 have hmm := @run_makeMap Try.prog
 go_enter Try.func52, Try.ntmps52
 go_wp2
 clear hmm
 go_loopw [11] (fun i wr => ∃ (k : Nat) (G : Groups) (V : Int → Value), i = .int .i64 k ∧ k ≤ l.length ∧ Aside0 (GroupsAt wr w.heap.size w.heap.size G V) ∧ Aside0 (chGo but (l.drop k) G = childrenP l but) ∧ Aside0 (∀ x xs, mlook G x = some xs → xs.length ≤ k) ∧ Aside0 (Below w.heap.size w wr)) (fun i _ => l.length - (intOf i).toNat)
 case atStart => exact ⟨0, [], fun _ => undef, rfl, by omega, ⟨GroupsAt.made w _ _⟩, ⟨rfl⟩, ⟨fun x xs h => by simp [mlook_nil] at h⟩, ⟨(Below.refl _ _).alloc (Nat.le_refl _) _⟩⟩
 case round =>
  obtain ⟨k, G, V, rfl, hk, HM, HG, HX, HB⟩ := hrel
  by_cases hlt : k < l.length
  ·obtain ⟨ad', e, x0, x1, x2, x3, x4⟩ := at_T24 (Kd.C_below HR.out HB.out) k (by omega) (by omega)
   cases e
   simp only [Int.toNat_natCast] at x0 x1 x2 x3 x4
   obtain ⟨n, hn⟩ : ∃ n, n = rd_T24 l k := ⟨_, rfl⟩
   rw [← hn] at x0 x1 x2 x3 x4
   have Hn := Aside0.mk hn
   clear hn
   have i1 : (0 : Int) ≤ k := by omega
   have i2 : (k : Int) < l.length := by omega
   by_cases he : n.f0 = but
   ·have heb : (n.f0 != but) = false := by simpa using he
    have hgo : Aside0 (chGo but (l.drop (k + 1)) G = childrenP l but) := ⟨by
     rw [← HG.out, drop_ch l k hlt, ← Hn.out]
     simp only [chGo, chStep, if_pos he]⟩
    clear he
    go_wp2
    go_roundw
    case rel => exact ⟨k + 1, G, V, by go_num, by omega, ⟨HM.out.below (below_alloc (Below.refl _ _) _)⟩, hgo, ⟨fun x xs h => Nat.le_succ_of_le (HX.out x xs h)⟩, ⟨below_alloc HB.out _⟩⟩
    case measure => simp [intOf]; omega
   ·have heb : (n.f0 != but) = true := by simpa using he
    obtain ⟨xs, hxs⟩ : ∃ xs, xs = (mlook G n.f1).getD [] := ⟨_, rfl⟩
    have hgo : Aside0 (chGo but (l.drop (k + 1)) (mput G n.f1 (xs ++ [n.f0])) = childrenP l but) := ⟨by
     rw [← HG.out, drop_ch l k hlt, ← Hn.out]
     conv => rhs; simp only [chGo, chStep, if_neg he]
     rw [hxs]⟩
    have yL : Aside0 (xs.length ≤ 4000) := ⟨by
     rw [hxs]
     cases hm : mlook G n.f1 with
     | none => simp
     | some q => have := HX.out _ _ hm; have := HL.out; simp only [Option.getD_some]; omega⟩
    have hxl : Aside0 (∀ x ys, mlook (mput G n.f1 (xs ++ [n.f0])) x = some ys → ys.length ≤ k + 1) := ⟨by
     intro x ys h
     rw [mlook_mput] at h
     by_cases e : n.f1 = x
     ·rw [if_pos e] at h
      obtain rfl := Option.some.inj h
      rw [hxs]
      cases hm : mlook G n.f1 with
      | none => simp
      | some q => have := HX.out _ _ hm; simp; omega
     ·rw [if_neg e] at h
      exact Nat.le_succ_of_le (HX.out x ys h)⟩
    obtain ⟨v, hv_⟩ : ∃ v, v = valAt G V n.f1 := ⟨_, rfl⟩
    have hv : Aside0 (((mlook (vmap G V) n.f1).map (fun v : Value => v)).getD (.slice none 0 0) = v) := ⟨by rw [hv_]; exact (HM.out.at n.f1).1⟩
    have hR0 := Aside0.mk (HM.out.at n.f1).2
    rw [← hv_, ← hxs] at hR0
    have Hv := Aside0.mk hv_
    have hgv : some wr.heap.size ≠ v.ownBlock := fun c_ => absurd (Kd.R_lt hR0.out _ c_.symm) (Nat.lt_irrefl _)
    have hbv : some w.heap.size ≠ v.ownBlock := HM.out.1.ne_own (fun k_ hk_ => by obtain ⟨_, _, _, q, hq, cells, hc⟩ := (Kd.R_bound hR0.out).1 k_ hk_; rw [show (Kd.int .i64).E = [] from rfl] at hq; simp at hq; subst hq; exact ⟨cells, hc⟩)
    have Hgv := Aside0.mk hgv
    have Hbv := Aside0.mk hbv
    clear he hxs hv_ hgv hbv
    go_wp2_with fail
    have y0 : (wr.alloc (.cells #[.int .i64 n.f0, .int .i64 n.f1, .int .i64 n.f2, .int .i64 n.f3, .string n.f4] 24)).heap[wr.heap.size]? = some (.cells #[.int .i64 n.f0, .int .i64 n.f1, .int .i64 n.f2, .int .i64 n.f3, .string n.f4] 24) := heap_alloc_new wr _
    have yG := Aside0.mk (HM.out.below (below_alloc (Below.refl wr.heap.size wr) (.cells #[.int .i64 n.f0, .int .i64 n.f1, .int .i64 n.f2, .int .i64 n.f3, .string n.f4] 24)))
    have yR := Aside0.mk (Kd.R_alloc hR0.out (.cells #[.int .i64 n.f0, .int .i64 n.f1, .int .i64 n.f2, .int .i64 n.f3, .string n.f4] 24))
    have yB := Aside0.mk (below_alloc HB.out (.cells #[.int .i64 n.f0, .int .i64 n.f1, .int .i64 n.f2, .int .i64 n.f3, .string n.f4] 24))
    clear x0 x1 x2 x3 x4 HM HB hR0
    generalize (wr.alloc (.cells #[.int .i64 n.f0, .int .i64 n.f1, .int .i64 n.f2, .int .i64 n.f3, .string n.f4] 24)) = W at y0 yG yR yB ⊢
    generalize wr.heap.size = g at y0 Hgv ⊢
    have yM := Aside0.mk yG.out.1
    have hgl := blk_lt y0
    have z0 := blk_cell y0 0
    have z1 := blk_cell y0 1
    have hgv := Hgv.out
    have hbv := Hbv.out
    refine start_ (n := 12) (S := fun w' => w'.cell? ⟨g, 0, none⟩ = some (.int .i64 n.f0) ∧ w'.cell? ⟨g, 1, none⟩ = some (.int .i64 n.f1) ∧ (Instr.lookup 65 (.map (some w.heap.size)) (.int .i64 n.f1) false).run Try.prog w' = .ok v w') (ds := [11]) #[false, false, false, false, false, false, false, false, false, false, false, false] (by kernel_rfl) rfl rfl ⟨(((below_drew1 (Below.refl W.heap.size W)).cell (p := ⟨g, 0, none⟩) hgl).trans z0), (((below_drew1 (Below.refl W.heap.size W)).cell (p := ⟨g, 1, none⟩) hgl).trans z1), ((yM.out.below (below_drew1 (Below.refl W.heap.size W))).run_v (KeyOK.int .i64) Try.underlying65 Try.underlying3 (zero30 _) hv.out)⟩ (fun hHeld => ?_)
    refine with_tabW children_r.tab6 children_r.bits6 (fun HT_ HW_ => ?_)
    refine pz_ 0 (some 19) ?_
    refine pz_ 1 (some 20) ?_
    refine pz_ 3 (some 22) ?_
    refine pz_ 4 (some 23) ?_
    refine pz_ 7 (some 26) ?_
    refine tz_ 2 (some 21) hHeld ?_
    refine tz_ 5 (some 24) hHeld ?_
    refine tz_ 6 (some 25) hHeld ?_
    refine tz_ 8 (some 27) hHeld ?_
    refine oz_ 9 (some 28) (fun K hK => ?_)
    refine value_ (w1 := ?_) (v := ?_) (by rfl) rfl ?_ ?_
    rotate_left 2
    ·go_simp
     constructor
     ·rfl
     ·rfl
    refine hK.out _ _ ⟨(((below_alloc (below_drew1 (Below.refl W.heap.size W)) (.cells #[.int .i64 n.f0] 3)).cell (p := ⟨g, 0, none⟩) hgl).trans z0), (((below_alloc (below_drew1 (Below.refl W.heap.size W)) (.cells #[.int .i64 n.f0] 3)).cell (p := ⟨g, 1, none⟩) hgl).trans z1), ((yM.out.below (below_alloc (below_drew1 (Below.refl W.heap.size W)) (.cells #[.int .i64 n.f0] 3))).run_v (KeyOK.int .i64) Try.underlying65 Try.underlying3 (zero30 _) hv.out)⟩ (fun hHeld => ?_)
    clear hK K
    refine norm_ (a' := ?_) ?_ ?_
    rotate_left
    ·show Act.put _ (some 28) _ = _
     simp only [Act.put, List.setIfInBounds_toArray, List.set_cons_zero, List.set_cons_succ, i64_w, i32_w]
     rfl
    refine oz_ 10 (some 29) (fun K hK => ?_)
    refine Kd.R_append_step (Kd.int .i64) (w0 := w) (W := W.drew) w.heap.size (by rfl) (.tmp 25) (.tmp 28) 30 3 (.int .i64 0) 8 rfl Try.underlying30 info3 rfl (by decide) (by omega) v xs n.f0 [.int .i64 n.f0] (fun k => ∀ y, y ≠ n.f1 → (mlook G y).isSome = true → some k ≠ (V y).ownBlock) (fun _ => False) rfl rfl ?aP (fun _ hk => hk.elim) ?aF ?aO ?aB ?aS ?aL ?_
    case aP => exact rfl
    case aF => exact fun k hk y _ hs => yG.out.fresh (show W.heap.size ≤ k from hk) y hs
    case aO => exact Kd.R_drew yR.out
    case aB => exact below_drew1 yB.out
    case aS => exact yB.out.size
    case aL => have := yL.out; omega
    intro v1 w4 hr4 hB4 hg4 hat4
    have y4 : w4.heap[g]? = some (.cells #[.int .i64 n.f0, .int .i64 n.f1, .int .i64 n.f2, .int .i64 n.f3, .string n.f4] 24 (0, 0)) := (hg4.block g hgl hgv).trans y0
    have hM4 := Aside0.mk ((yM.out.drew).grown hg4 hbv)
    refine hK.out _ _ ⟨(blk_cell y4 0), (blk_cell y4 1), (hM4.out.run_v (KeyOK.int .i64) Try.underlying65 Try.underlying3 (zero30 _) hv.out)⟩ (fun hHeld => ?_)
    clear hK K
    refine norm_ (a' := ?_) ?_ ?_
    rotate_left
    ·show Act.put _ (some 29) _ = _
     simp only [Act.put, List.setIfInBounds_toArray, List.set_cons_zero, List.set_cons_succ, i64_w, i32_w]
     rfl
    refine last_ (i := 11) (N := none) #[true, true, true, true, true, true, true, true, true, true, true, true] rfl rfl (one_of HT_.out (by kernel_rfl)) (by decide) (fun K hK => ?_)
    obtain ⟨w5, hrun5, hM5, hg5⟩ := hM4.out.run_update (KeyOK.int .i64) Try.underlying65 Try.underlying3 n.f1 v1
    replace hrun5 : (Instr.mapUpdate 65 (.map (some w.heap.size)) (.int .i64 n.f1) v1).run Try.prog w4 = .ok () w5 := hrun5
    refine skip_ (w1 := ?_) (by rfl) rfl ?_ ?_
    rotate_left
    ·go_simp
     rfl
    refine hK.out _ _ ?_
    clear hK K
    refine done_ (done_of HT_.out (by kernel_rfl)) ?_

    have hG5 := Aside0.mk (GroupsAt.step (yG.out.below (below_drew1 (Below.refl _ _))) hr4 (by rw [← Hv.out]; exact hg4) hM5 hM4.out hg5)
    have HB5 := Aside0.mk (Below.grown hB4 hg5 hB4.size (fun j hj => by cases hj; exact Nat.le_refl _))
    clear hr4 hB4 hg4 hat4 y4 hM5 hg5 z0 z1 hgl hgv hbv y0
    go_wp2
    go_roundw
    case rel => exact ⟨k + 1, _, _, by go_num, by omega, hG5, hgo, hxl, HB5⟩
    case measure => simp [intOf]; omega
  ·obtain rfl : k = l.length := by omega
   have hfin : Aside0 (G = childrenP l but) := ⟨by rw [← HG.out, List.drop_length]; rfl⟩
   go_wp2
   go_ret
   exact ⟨V, rfl, by rw [← hfin.out]; exact HM.out, fun x xs h => Nat.le_trans (HX.out x xs (by rw [hfin.out]; exact h)) HL.out, HB.out⟩
theorem below_setBlock {B : Nat} {w w1 : World} (hb : Below B w w1) {r : Nat} (o : Obj) (hr : B ≤ r) : Below B w (ChangeMaps.setBlock w1 r o) :=
 ⟨hb.os, hb.tape, hb.output, by simpa [ChangeMaps.setBlock] using hb.size, fun k hk => by
  have h := hb.block k hk
  rw [← h]
  simp only [ChangeMaps.setBlock]
  rw [Array.getElem?_setIfInBounds_ne (by omega)]⟩
theorem at_setBlock (w : World) (r : Nat) (o : Obj) (hr : r < w.heap.size) : (ChangeMaps.setBlock w r o).heap[r]? = some o := by
 simp [ChangeMaps.setBlock, hr]
theorem iterSeen_of {w : World} {r : Nat} {m : Option Nat} {a : Nat} {s : Array Nat} {c : Nat} (h : w.heap[r]? = some (.mapIter m a s c)) : w.iterSeen r = s := by
 unfold World.iterSeen
 rw [h]
theorem group_entry {es : List MapEntry} {G : Groups} {V : Int → Value} (h : es.map (fun e => (e.key, e.val)) = (vmap G V).map (fun p => (Value.int .i64 p.1, p.2))) {e : MapEntry} (he : e ∈ es) :
  ∃ p ∈ G, e.key = .int .i64 p.1 ∧ e.val = V p.1 := by
 have h1 : (e.key, e.val) ∈ (vmap G V).map (fun p => (Value.int .i64 p.1, p.2)) := by rw [← h]; exact List.mem_map.2 ⟨e, he, rfl⟩
 obtain ⟨q, hq, e1⟩ := List.mem_map.1 h1
 obtain ⟨p, hp, rfl⟩ := List.mem_map.1 hq
 simp only [Prod.mk.injEq] at e1
 exact ⟨p, hp, e1.1.symm, e1.2.symm⟩
theorem mlook_mem {G : Groups} {p : Int × List Int} (hp : p ∈ G) : ∃ xs, mlook G p.1 = some xs := by
 cases hm : mlook G p.1 with
 | some xs => exact ⟨xs, rfl⟩
 | none => exact absurd rfl ((mlook_none_iff G p.1).1 hm p hp)
theorem sameInts_self (a : List Int) (ha : a.length ≤ 4000) : ∃ k, formeref10_SameInts.f k a a = some true := by
 have go : ∀ (d i : Nat), i ≤ a.length → a.length - i ≤ d → ∀ k, d < k → formeref10_SameInts.l0 k a a (i : Int) = some true := by
  intro d
  induction d with
  | zero =>
   intro i hi hd k hk
   obtain ⟨k, rfl⟩ : ∃ m, k = m + 1 := ⟨k - 1, by omega⟩
   simp only [formeref10_SameInts.l0]
   rw [if_neg (by omega)]
  | succ d ih =>
   intro i hi hd k hk
   obtain ⟨k, rfl⟩ : ∃ m, k = m + 1 := ⟨k - 1, by omega⟩
   simp only [formeref10_SameInts.l0]
   by_cases hlt : i < a.length
   ·rw [if_pos (by omega), if_pos (by omega), if_pos (by omega), if_pos trivial, show wrap64 ((i : Int) + 1) = ((i + 1 : Nat) : Int) by unfold wrap64; omega]
    exact ih (i + 1) hlt (by omega) k (by omega)
   ·rw [if_neg (by omega)]
 refine ⟨a.length + 1, ?_⟩
 unfold formeref10_SameInts.f
 rw [if_pos rfl]
 exact go a.length 0 (by omega) (by omega) _ (by omega)
def alikeB (l m : List S24) (but : Int) : Bool := decide (∀ p ∈ childrenP l but, mlook (childrenP m but) p.1 = mlook (childrenP l but) p.1) && decide ((childrenP l but).length = (childrenP m but).length)
def formelaw10_alike.f (l0 l1 : List S24) (a2 : Int) : Option Bool := if l0.length ≤ 4000 ∧ l1.length ≤ 4000 ∧ alikeB l0 l1 a2 = true then some true else none
set_option maxHeartbeats 4000000 in
set_option maxRecDepth 100000 in
theorem alike_calls (A0 : Option Addr) (c0 : Nat) (l0 : List S24) (A1 : Option Addr) (c1 : Nat) (l1 : List S24) (but : Int) (w : World) (hr0 : Kd.C k24 w A0 l0.length l0) (hc0 : l0.length ≤ c0) (hr1 : Kd.C k24 w A1 l1.length l1) (hc1 : l1.length ≤ c1) (h0 : l0.length ≤ 4000) (h1 : l1.length ≤ 4000)
  (hk : ∀ p ∈ childrenP l0 but, mlook (childrenP l1 but) p.1 = mlook (childrenP l0 but) p.1) (hn : (childrenP l0 but).length = (childrenP l1 but).length) :
  Calls Try.prog 28 #[.slice A0 l0.length c0, .slice A1 l1.length c1, .int .i64 but] w fun e w' => e = .returned (.bool true) ∧ Below w.heap.size w w' := by
 have HR0 := Aside0.mk hr0
 have HR1 := Aside0.mk hr1
 have HK := Aside0.mk hk
 have HN := Aside0.mk hn
 have H1 := Aside0.mk h1
 have HC1 := Aside0.mk hc1
 have hum : Try.prog.underlying 65 = some (.map (Try.prog.mapKeyOf 65) (Try.prog.mapElemOf 65)) := by kernel_rfl
 have Hum := Aside0.mk hum
 clear hr0 hr1 hk hn hum
 go_enter Try.func28, Try.ntmps28
 go_wp2_with fail
 refine (children_calls A0 c0 l0 but _ HR0.out hc0 h0).mono ?_
 rintro e w1 ⟨V1, rfl, hG1, hX1, hB1⟩
 have HG1 := Aside0.mk hG1
 have HX1 := Aside0.mk hX1
 have HB1 := Aside0.mk hB1
 clear hG1 hX1 hB1
 go_wp2_with fail
 refine (children_calls A1 c1 l1 but _ (Kd.C_below HR1.out HB1.out) HC1.out H1.out).mono ?_
 rintro e w2 ⟨V2, rfl, hG2, hX2, hB2⟩
 have HG1b := Aside0.mk (HG1.out.below hB2)
 have HG2 := Aside0.mk hG2
 have HB2 := Aside0.mk (HB1.out.trans (hB2.mono HB1.out.size))
 clear HG1 HB1 hG2 hB2
 obtain ⟨es, clock, hb, hst, hes⟩ := HG1b.out.1
 obtain ⟨es2, clock2, hb2, hst2, hes2⟩ := HG2.out.1
 have Hes := Aside0.mk hes
 have Hst := Aside0.mk hst
 have hsz : es2.size = es.size := by
  have e1 := congrArg List.length hes
  have e2 := congrArg List.length hes2
  have := HN.out
  simp [vmap] at e1 e2
  omega
 have hbl : w.heap.size < w2.heap.size := (Array.getElem?_eq_some_iff.1 hb).1
 have hbl2 : w1.heap.size < w2.heap.size := (Array.getElem?_eq_some_iff.1 hb2).1
 obtain ⟨b1, hb1_⟩ : ∃ b1, b1 = w.heap.size := ⟨_, rfl⟩
 obtain ⟨b2, hb2_⟩ : ∃ b2, b2 = w1.heap.size := ⟨_, rfl⟩
 have Hb1 := Aside0.mk hb1_
 simp only [← hb1_, ← hb2_] at hb hb2 hbl hbl2 ⊢
 have Hbl := Aside0.mk hbl
 have Hbl2 := Aside0.mk hbl2
 have Hb := Aside0.mk hb
 have HGx : Aside0 (GroupsAt w2 w.heap.size b1 (childrenP l0 but) V1) := ⟨by rw [hb1_]; exact HG1b.out⟩
 have HGy : Aside0 (GroupsAt w2 w1.heap.size b2 (childrenP l1 but) V2) := ⟨by rw [hb2_]; exact HG2.out⟩
 have Hb2h := Aside0.mk hb2
 have hrg := run_range_map (P := Try.prog) w2 65 3 30 b1 es clock Try.underlying65 hb
 clear hes hes2 hst hst2 hb1_ hb2_ hbl hbl2 HG1b HG2 hb hb2
 go_wp2
 clear hrg
 have hrt : (w2.alloc (.mapIter (some b1) clock #[] clock)).heap[w2.heap.size]? = some (.mapIter (some b1) clock #[] clock) := heap_alloc_new _ _
 have hBt : Below w2.heap.size w2 (w2.alloc (.mapIter (some b1) clock #[] clock)) := below_alloc (Below.refl _ _) _
 go_loopw [] (fun wr => ∃ seen : Array Nat, Aside0 (wr.heap[w2.heap.size]? = some (.mapIter (some b1) clock seen clock)) ∧ Aside0 (Below w2.heap.size w2 wr)) (fun wr => (leftOf es (wr.iterSeen w2.heap.size)).size)
 case atStart => exact ⟨#[], ⟨hrt⟩, ⟨hBt⟩⟩
 case round =>
  clear hrt hBt
  obtain ⟨seen, Hr, HB⟩ := hrel
  have hbr : wr.heap[b1]? = some (.map es clock) := (HB.out.block b1 Hbl.out).trans Hb.out
  have hb2r : wr.heap[b2]? = some (.map es2 clock2) := (HB.out.block b2 Hbl2.out).trans Hb2h.out
  rcases run_next_at (P := Try.prog) wr 0 w2.heap.size b1 clock clock seen es clock Hr.out hbr Hst.out.1 (Nat.le_refl _) with ⟨hz, hrun⟩ | ⟨e, he, w3, hw3, hrun⟩
  ·have hnx : ∀ ty, (Instr.next (.pointer (some ⟨w2.heap.size, 0, none⟩)) false ty).run Try.prog wr = .ok (.tuple #[.bool false]) wr := fun _ => hrun
   have hln1 : ∀ ty, (Builtin.len_ #[65] ty #[.map (some b1)]).run Try.prog wr = .ok (goInt es.size) wr := fun ty => run_len_map wr 65 ty b1 es clock Hum.out hbr
   have hln2 : ∀ ty, (Builtin.len_ #[65] ty #[.map (some b2)]).run Try.prog wr = .ok (goInt es2.size) wr := fun ty => run_len_map wr 65 ty b2 es2 clock2 Hum.out hb2r
   clear hrun hz
   go_wp2
   go_ret
   exact ⟨rfl, HB2.out.trans (HB.out.mono HB2.out.size)⟩
  ·have hem := (mem_left he).1
   obtain ⟨p, hp, hkey, hval⟩ := group_entry Hes.out hem
   obtain ⟨xs, hxs⟩ := mlook_mem hp
   have hy := HK.out p hp
   have hl := HX1.out p.1 xs hxs
   have hRx := HGx.out.2 p.1 xs hxs
   rw [hxs] at hy
   have hRy := HGy.out.2 p.1 xs hy
   obtain ⟨Ax, cx, ex⟩ := Kd.R_slice hRx
   obtain ⟨Ay, cy, ey⟩ := Kd.R_slice hRy
   rw [ex] at hRx hval
   rw [ey] at hRy
   have hvy : ((mlook (vmap (childrenP l1 but) V2) p.1).map (fun v : Value => v)).getD (.slice none 0 0) = .slice Ay xs.length cy := by rw [mlook_vmap, hy]; exact ey
   rw [hkey, hval] at hrun
   have hB3 : Below w2.heap.size w2 w3 := by rcases hw3 with rfl | rfl; exact HB.out; exact below_drew1 HB.out
   have hr3 : w3.heap[w2.heap.size]? = some (.mapIter (some b1) clock seen clock) := by rcases hw3 with rfl | rfl <;> exact Hr.out
   have hB4 := below_setBlock hB3 (.mapIter (some b1) clock (seen.push e.born) clock) (Nat.le_refl w2.heap.size)
   have hr4 := at_setBlock w3 w2.heap.size (.mapIter (some b1) clock (seen.push e.born) clock) (Array.getElem?_eq_some_iff.1 hr3).1
   generalize ChangeMaps.setBlock w3 w2.heap.size (.mapIter (some b1) clock (seen.push e.born) clock) = W at hrun hB4 hr4
   have hen := run_entry_at (P := Try.prog) W w2.heap.size b1 clock seen es clock e hr4 ((hB4.block b1 Hbl.out).trans Hb.out) hem Hst.out.2.1
   rw [hkey, hval] at hen
   have hnx : ∀ ty, (Instr.next (.pointer (some ⟨w2.heap.size, 0, none⟩)) false ty).run Try.prog wr = .ok (.tuple #[.bool true, .int .i64 p.1, .slice Ax xs.length cx]) W := fun _ => hrun
   obtain ⟨q, hq⟩ := sameInts_self xs hl
   have HSI := Aside0.mk hq
   have HB4 := Aside0.mk hB4
   have Hr4 := Aside0.mk hr4
   have HRx := Aside0.mk (Kd.R_below hRx hB4)
   have HRy := Aside0.mk (Kd.R_below hRy hB4)
   have Hvy := Aside0.mk hvy
   have HMy := Aside0.mk (HGy.out.1.below hB4)
   have Hlt : Aside0 ((leftOf es (seen.push e.born)).size < (leftOf es seen).size) := ⟨left_shrinks es seen e he⟩
   have Hse : Aside0 (wr.iterSeen w2.heap.size = seen) := ⟨iterSeen_of Hr.out⟩
   clear hrun hem hp hkey hval hxs hy hl hRx hRy ex ey hvy hB3 hr3 hB4 hr4 hq hbr hb2r hw3 he
   obtain ⟨px, hpx⟩ : ∃ px, px = p.1 := ⟨_, rfl⟩
   rw [← hpx] at hnx hen Hvy
   clear hpx
   go_wp2_with (first | (at_lookup; refine wpList_lookup_v _ rfl (.tmp 25) (.tmp 26) 65 rfl 3 30 (KeyOK.int .i64) Try.underlying65 Try.underlying3 (zero30 _) rfl HMy.out px rfl _ Hvy.out ?_) | (go_at_call 17; (with_reducible refine (formeref10_SameInts.calls q Ax cx xs Ay cy xs true _ (Kd.R_reads' HRx.out).2.2 (Kd.R_reads' HRx.out).2.1 (Kd.R_reads' HRy.out).2.2 (Kd.R_reads' HRy.out).2.1 HSI.out).mono ?_); rintro e5 w5 ⟨rfl, hd5⟩; have Hd5 := Aside0.mk hd5; clear hd5))
   go_roundw
   case rel =>
    obtain ⟨m5, rfl⟩ := Hd5.out.out
    exact ⟨seen.push e.born, ⟨Hr4.out⟩, ⟨pw_below_drewN HB4.out m5⟩⟩
   case measure =>
    obtain ⟨m5, rfl⟩ := Hd5.out.out
    rw [Hse.out, show (W.drewN m5).iterSeen w2.heap.size = seen.push e.born from iterSeen_of Hr4.out]
    exact Hlt.out
theorem formelaw10_alike.calls (A0 : Option Addr) (c0 : Nat) (l0 : List (S24)) (A1 : Option Addr) (c1 : Nat) (l1 : List (S24)) (a2 : Int) (r : Bool) (w : World) (hr0 : Kd.C k24 w A0 l0.length l0) (hc0 : l0.length ≤ c0) (hr1 : Kd.C k24 w A1 l1.length l1) (hc1 : l1.length ≤ c1) (h : formelaw10_alike.f l0 l1 a2 = some r) :
  Calls Try.prog 28 #[.slice A0 l0.length c0, .slice A1 l1.length c1, .int .i64 a2] w fun e w' => e = .returned (.bool r) ∧ Below w.heap.size w w' := by
 unfold formelaw10_alike.f at h
 split at h
 ·rename_i hc
  obtain rfl := Option.some.inj h
  have h3 := hc.2.2
  unfold alikeB at h3
  simp only [Bool.and_eq_true, decide_eq_true_eq] at h3
  exact alike_calls A0 c0 l0 A1 c1 l1 a2 w hr0 hc0 hr1 hc1 hc.1 hc.2.1 h3.1 h3.2
 ·cases h
end Go.Proofs.Ytpafhhgoldenoaa.P
end
section
namespace Go.Proofs.Ytpafhhgoldenoaa.P
open Go.RowKit Go.Proofs.YtpafhhgoldenoaaW.PrintWords Go.Proofs.YtpafhhgoldenoaaW.PrintLast Go.Proofs.YtpafhhgoldenoaaW.PrintMore
open Go.Proofs.Ytpafhhgoldenoaa.XM
set_option linter.unusedVariables false
set_option linter.unusedSimpArgs false
variable {l : List S24} {ds : Nat → Int} {D : Places}
def kidsX (l : List S24) (but x : Int) : List Int := (l.filter (fun n => decide (n.f0 ≠ but ∧ n.f1 = x))).map (·.f0)
theorem kidsX_append (a b : List S24) (but x : Int) : kidsX (a ++ b) but x = kidsX a but x ++ kidsX b but x := by simp [kidsX]
theorem kidsL_append (a b : List S24) (x : Int) : kidsL (a ++ b) x = kidsL a x ++ kidsL b x := by simp [kidsL]
def optL (ks : List Int) : Option (List Int) := if ks = [] then none else some ks
theorem chGo_look (but : Int) : ∀ (r : List S24) (G : Groups) (x : Int), mlook (chGo but r G) x = optL ((mlook G x).getD [] ++ kidsX r but x) ∨ (kidsX r but x = [] ∧ mlook (chGo but r G) x = mlook G x)
 | [], G, x => .inr ⟨rfl, rfl⟩
 | n :: r, G, x => by
  simp only [chGo]
  have ih := chGo_look but r (chStep but G n) x
  unfold chStep at ih ⊢
  by_cases h : n.f0 = but
  ·rw [if_pos h] at ih ⊢
   have e : kidsX (n :: r) but x = kidsX r but x := by simp [kidsX, h]
   rw [e]; exact ih
  ·rw [if_neg h] at ih ⊢
   rw [mlook_mput] at ih
   by_cases hx : n.f1 = x
   ·have e : kidsX (n :: r) but x = n.f0 :: kidsX r but x := by simp [kidsX, h, hx]
    rw [e]
    subst hx
    simp only [if_true, Option.getD_some] at ih
    left
    rcases ih with ih | ⟨ih1, ih2⟩
    ·rw [ih]; simp
    ·rw [ih2, ih1]; simp [optL]
   ·have e : kidsX (n :: r) but x = kidsX r but x := by simp [kidsX, h, hx]
    rw [e]
    rw [if_neg hx] at ih
    exact ih
theorem children_look (l : List S24) (but x : Int) : mlook (childrenP l but) x = optL (kidsX l but x) := by
 unfold childrenP
 rcases chGo_look but l [] x with h | ⟨h1, h2⟩
 ·rw [h]; simp [mlook_nil]
 ·rw [h2, h1]; rfl
theorem mput_keys (G : Groups) (x : Int) (xs : List Int) (h : (G.map (·.1)).Nodup) : ((mput G x xs).map (·.1)).Nodup := by
 unfold mput
 split
 ·have e : (G.map (fun p => if p.1 = x then (x, xs) else p)).map (·.1) = G.map (·.1) := by
   rw [List.map_map]
   refine List.map_congr_left (fun p _ => ?_)
   by_cases hp : p.1 = x <;> simp [hp]
  rw [e]; exact h
 ·rename_i hn
  rw [List.map_append, List.nodup_append]
  refine ⟨h, by simp, ?_⟩
  intro a ha b hb e
  simp at hb
  subst hb
  subst e
  obtain ⟨p, hp, rfl⟩ := List.mem_map.1 ha
  obtain ⟨ys, hy⟩ := mlook_mem hp
  exact hn (by rw [hy]; rfl)
theorem chGo_keys (but : Int) : ∀ (r : List S24) (G : Groups), (G.map (·.1)).Nodup → ((chGo but r G).map (·.1)).Nodup
 | [], G, h => h
 | n :: r, G, h => by
  simp only [chGo]
  refine chGo_keys but r _ ?_
  unfold chStep
  split
  ·exact h
  ·exact mput_keys G _ _ h
theorem look_of_key {G : Groups} {x : Int} : x ∈ G.map (·.1) ↔ (mlook G x).isSome = true := by
 constructor
 ·intro h
  obtain ⟨p, hp, rfl⟩ := List.mem_map.1 h
  obtain ⟨ys, hy⟩ := mlook_mem hp
  rw [hy]; rfl
 ·intro h
  cases hm : mlook G x with
  | none => rw [hm] at h; simp at h
  | some ys =>
   by_cases c : x ∈ G.map (·.1)
   ·exact c
   ·have : mlook G x = none := (mlook_none_iff G x).2 (fun p hp e => c (by rw [← e]; exact List.mem_map.2 ⟨p, hp, rfl⟩))
    rw [this] at hm; cases hm
theorem nodup_len : ∀ (a b : List Int), a.Nodup → (∀ x, x ∈ a → x ∈ b) → a.length ≤ b.length
 | [], b, _, _ => Nat.zero_le _
 | x :: a, b, h, hs => by
  have h' := List.nodup_cons.1 h
  have hx : x ∈ b := hs x (by simp)
  have := nodup_len a (b.erase x) h'.2 (fun y hy => by
   have hyb := hs y (by simp [hy])
   have hne : y ≠ x := fun e => h'.1 (by rw [← e]; exact hy)
   exact (List.mem_erase_of_ne hne).2 hyb)
  rw [List.length_erase_of_mem hx] at this
  have hb : 0 < b.length := List.length_pos_of_mem hx
  simp only [List.length_cons]
  omega
theorem alike_of (l m : List S24) (but : Int) (h1 : l.length ≤ 4000) (h2 : m.length ≤ 4000) (h : ∀ x, kidsX l but x = kidsX m but x) : formelaw10_alike.f l m but = some true := by
 unfold formelaw10_alike.f
 rw [if_pos]
 refine ⟨h1, h2, ?_⟩
 unfold alikeB
 have hk : ∀ x, mlook (childrenP l but) x = mlook (childrenP m but) x := fun x => by rw [children_look, children_look, h x]
 have n1 : ((childrenP l but).map (·.1)).Nodup := chGo_keys but l [] (by simp)
 have n2 : ((childrenP m but).map (·.1)).Nodup := chGo_keys but m [] (by simp)
 have l1 := nodup_len _ _ n1 (fun x hx => look_of_key.2 (by rw [← hk x]; exact look_of_key.1 hx) : ∀ x, x ∈ (childrenP l but).map (·.1) → x ∈ (childrenP m but).map (·.1))
 have l2 := nodup_len _ _ n2 (fun x hx => look_of_key.2 (by rw [hk x]; exact look_of_key.1 hx) : ∀ x, x ∈ (childrenP m but).map (·.1) → x ∈ (childrenP l but).map (·.1))
 simp only [List.length_map] at l1 l2
 simp only [Bool.and_eq_true, decide_eq_true_eq]
 exact ⟨fun p _ => (hk p.1).symm, by omega⟩
theorem kidsX_sel (l : List S24) (p : Nat → Bool) (but x : Int) (h : ∀ j, j < l.length → (nd l j).f0 ≠ but → (nd l j).f1 = x → p j = true) : ∀ i, i ≤ l.length → kidsX (selP l p i) but x = kidsX (l.take i) but x := by
 intro i
 induction i with
 | zero => intro _; rfl
 | succ i ih =>
  intro hi
  have e : l.take (i + 1) = l.take i ++ [nd l i] := by
   rw [List.take_succ_eq_append_getElem (by omega)]
   simp [rd_T24, show i < l.length by omega]
  rw [e, kidsX_append, ← ih (by omega), selP_succ]
  by_cases hp : p i = true
  ·rw [if_pos hp, kidsX_append]
  ·rw [if_neg hp]
   have : kidsX [nd l i] but x = [] := by
    by_cases c : (nd l i).f0 ≠ but ∧ (nd l i).f1 = x
    ·exact absurd (h i (by omega) c.1 c.2) hp
    ·simp [kidsX, c]
   rw [this, List.append_nil]
theorem kidsX_none (l : List S24) (p : Nat → Bool) (but x : Int) (h : ∀ j, j < l.length → (nd l j).f0 ≠ but → (nd l j).f1 = x → p j = false) : kidsX (selP l p l.length) but x = [] := by
 unfold kidsX
 rw [List.map_eq_nil_iff, List.filter_eq_nil_iff]
 intro n hn
 obtain ⟨j, hj, hp, rfl⟩ := (sel_mem p _).1 hn
 simp only [decide_eq_true_eq]
 rintro ⟨a, b⟩
 rw [h j hj a b] at hp
 cases hp
end Go.Proofs.Ytpafhhgoldenoaa.P
end
section
namespace Go.Proofs.Ytpafhhgoldenoaa.P
open Go.RowKit Go.Proofs.YtpafhhgoldenoaaW.PrintWords Go.Proofs.YtpafhhgoldenoaaW.PrintLast Go.Proofs.YtpafhhgoldenoaaW.PrintMore
open Go.Proofs.Ytpafhhgoldenoaa.XM
set_option linter.unusedVariables false
set_option linter.unusedSimpArgs false
variable {l : List S24} {ds : Nat → Int} {D : Places}
theorem putP_form {l more : List S24} {b : Int} {r : List S24} (h : putP l more b = some r) : ∃ q, q ≤ l.length ∧ r = l.take q ++ more ++ l.drop q ∧ ((b = 0 ∧ q = l.length) ∨ (b ≠ 0 ∧ q < l.length ∧ (nd l q).f0 = b)) := by
 unfold putP at h
 split at h
 ·rename_i hb
  obtain rfl := Option.some.inj h
  exact ⟨l.length, Nat.le_refl _, by simp, .inl ⟨hb, rfl⟩⟩
 ·rename_i hb
  split at h
  ·rename_i i e
   obtain rfl := Option.some.inj h
   obtain ⟨hi, hp, _⟩ := List.findIdx?_eq_some_iff_getElem.1 e
   exact ⟨i, Nat.le_of_lt hi, rfl, .inr ⟨hb, hi, by simpa [rd_T24, hi] using hp⟩⟩
  ·cases h
structure Moved (l : List S24) (ds : Nat → Int) (id par b : Int) (out : List S24) (i k q : Nat) (tk : List S24) : Prop where
 hi : i < l.length
 i0 : 0 < i
 eid : (nd l i).f0 = id
 hk : k < l.length
 epar : (nd l k).f0 = par
 out_in : inB l id k = false
 tkp : selP l (inB l id) l.length = nd l i :: tk
 hq : q ≤ (selP l (fun j => !inB l id j) l.length).length
 form : out = (selP l (fun j => !inB l id j) l.length).take q ++ (reparent (nd l i) par :: tk) ++ (selP l (fun j => !inB l id j) l.length).drop q
 place : (b = 0 ∧ q = (selP l (fun j => !inB l id j) l.length).length) ∨ (b ≠ 0 ∧ b ∈ kidsL l par ∧ q < (selP l (fun j => !inB l id j) l.length).length ∧ (nd (selP l (fun j => !inB l id j) l.length) q).f0 = b)
section
variable {id par b : Int} {out : List S24} {i k q : Nat} {tk : List S24}
theorem Moved.tk_mem (M : Moved l ds id par b out i k q tk) (T : TreeAt l ds) {n : S24} (hn : n ∈ tk) : ∃ j, j < l.length ∧ j ≠ i ∧ inB l id j = true ∧ nd l j = n := by
 have hs : n ∈ selP l (inB l id) l.length := by rw [M.tkp]; exact List.mem_cons_of_mem _ hn
 obtain ⟨j, hj, hp, e⟩ := (sel_mem _ _).1 hs
 refine ⟨j, hj, ?_, hp, e⟩
 intro c
 subst c
 have hnd : ∀ m, m ≤ l.length → ((selP l (inB l id) m).map (·.f0)).Nodup := by
  intro m
  induction m with
  | zero => intro _; simp [selP]
  | succ m ih =>
   intro hm
   rw [selP_succ]
   split
   ·rw [List.map_append, List.nodup_append]
    refine ⟨ih (by omega), by simp, ?_⟩
    intro a ha c hc e2
    simp at hc
    subst hc
    obtain ⟨x, hx, e3⟩ := List.mem_map.1 ha
    simp only [selP, List.mem_map, List.mem_filter, List.mem_range] at hx
    obtain ⟨u, ⟨hu, _⟩, rfl⟩ := hx
    exact T.ids u m hu (by omega) (e3.trans e2)
   ·exact ih (by omega)
 have h2 := hnd l.length (Nat.le_refl _)
 rw [M.tkp, List.map_cons, List.nodup_cons] at h2
 exact h2.1 (List.mem_map.2 ⟨n, hn, by rw [← e]⟩)
theorem Moved.tk_kids (M : Moved l ds id par b out i k q tk) (T : TreeAt l ds) (hp : 1 ≤ par) : kidsL tk par = [] := by
 unfold kidsL
 rw [List.map_eq_nil_iff, List.filter_eq_nil_iff]
 intro n hn
 simp only [decide_eq_true_eq]
 intro c
 obtain ⟨j, hj, hji, hin, rfl⟩ := M.tk_mem T hn
 have hj0 : 0 < j := by
  rcases Nat.eq_zero_or_pos j with z | z
  ·subst z; rw [T.root.1] at c; omega
  ·exact z
 obtain ⟨m, hm, e, _, _⟩ := T.par j hj hj0
 obtain rfl := T.inj (j := m) (k := k) (by omega) M.hk (by rw [e, c, M.epar])
 rw [in_step T hj hm e, M.out_in, Bool.false_or, decide_eq_true_eq] at hin
 exact hji (T.inj hj M.hi (by rw [← hin, M.eid]))
theorem Moved.kids (M : Moved l ds id par b out i k q tk) (T : TreeAt l ds) (hp : 1 ≤ par) : (b = 0 ∧ ∃ A, kidsL out par = A ++ [id]) ∨ (b ≠ 0 ∧ ∃ A B, kidsL out par = A ++ id :: b :: B) := by
 have e1 : kidsL (reparent (nd l i) par :: tk) par = [id] := by
  have : kidsL (reparent (nd l i) par :: tk) par = (reparent (nd l i) par).f0 :: kidsL tk par := by simp [kidsL, reparent]
  rw [this, M.tk_kids T hp]
  show [(nd l i).f0] = [id]
  rw [M.eid]
 have e0 : kidsL out par = kidsL ((selP l (fun j => !inB l id j) l.length).take q) par ++ [id] ++ kidsL ((selP l (fun j => !inB l id j) l.length).drop q) par := by
  rw [M.form, kidsL_append, kidsL_append, e1]
 rcases M.place with ⟨hb, hq⟩ | ⟨hb, hkid, hq, hf⟩
 ·left
  refine ⟨hb, kidsL ((selP l (fun j => !inB l id j) l.length).take q) par, ?_⟩
  rw [e0, hq, List.drop_length]
  simp [kidsL]
 ·right
  obtain ⟨j, hj, ej, eb⟩ := kid_mem.1 hkid
  have hmem : nd (selP l (fun j => !inB l id j) l.length) q ∈ selP l (fun j => !inB l id j) l.length := nd_mem hq
  obtain ⟨m, hm, _, em⟩ := (sel_mem _ _).1 hmem
  obtain rfl := T.inj hm hj (by rw [em, hf, eb])
  have hpar : (nd (selP l (fun j => !inB l id j) l.length) q).f1 = par := by rw [← em]; exact ej
  refine ⟨hb, kidsL ((selP l (fun j => !inB l id j) l.length).take q) par, kidsL ((selP l (fun j => !inB l id j) l.length).drop (q + 1)) par, ?_⟩
  rw [e0, drop_nd _ q hq]
  have : kidsL (nd (selP l (fun j => !inB l id j) l.length) q :: (selP l (fun j => !inB l id j) l.length).drop (q + 1)) par = b :: kidsL ((selP l (fun j => !inB l id j) l.length).drop (q + 1)) par := by
   generalize (selP l (fun j => !inB l id j) l.length).drop (q + 1) = U
   rw [← hf]
   simp [kidsL, hpar]
  rw [this]
  simp
theorem Moved.alike (M : Moved l ds id par b out i k q tk) (T : TreeAt l ds) (x : Int) : kidsX l id x = kidsX out id x := by
 have e1 : kidsX (reparent (nd l i) par :: tk) id x = kidsX tk id x := by
  have : (reparent (nd l i) par).f0 = id := M.eid
  simp [kidsX, this]
 have e2 : kidsX (nd l i :: tk) id x = kidsX tk id x := by simp [kidsX, M.eid]
 have e0 : kidsX out id x = kidsX ((selP l (fun j => !inB l id j) l.length).take q) id x ++ kidsX tk id x ++ kidsX ((selP l (fun j => !inB l id j) l.length).drop q) id x := by
  rw [M.form, kidsX_append, kidsX_append, e1]
 have er : kidsX (selP l (fun j => !inB l id j) l.length) id x = kidsX ((selP l (fun j => !inB l id j) l.length).take q) id x ++ kidsX ((selP l (fun j => !inB l id j) l.length).drop q) id x := by
  rw [← kidsX_append, List.take_append_drop]
 rw [e0]
 by_cases hu : ∃ j, j < l.length ∧ (nd l j).f0 ≠ id ∧ (nd l j).f1 = x ∧ inB l id j = true
 ·obtain ⟨j0, hj0, hne, hx, hin⟩ := hu
  have hj0p : 0 < j0 := by
   rcases Nat.eq_zero_or_pos j0 with z | z
   ·subst z
    rw [in_root T, decide_eq_true_eq] at hin
    exact absurd hin.symm hne
   ·exact z
  obtain ⟨m0, hm0, em0, _, _⟩ := T.par j0 hj0 hj0p
  rw [in_step T hj0 hm0 em0, Bool.or_eq_true, decide_eq_true_eq] at hin
  have hin0 : inB l id m0 = true := hin.resolve_right (fun c => hne c.symm)
  have all : ∀ j, j < l.length → (nd l j).f0 ≠ id → (nd l j).f1 = x → inB l id j = true := by
   intro j hj hn hx2
   have hxp := T.id (j := m0) (by omega)
   have hjp : 0 < j := by
    rcases Nat.eq_zero_or_pos j with z | z
    ·subst z
     rw [T.root.1] at hx2
     omega
    ·exact z
   obtain ⟨m, hm, em, _, _⟩ := T.par j hj hjp
   obtain rfl := T.inj (j := m) (k := m0) (by omega) (by omega) (by rw [em, em0, hx, hx2])
   rw [in_step T hj hm em, hin0, Bool.true_or]
  have h1 := kidsX_sel l (inB l id) id x all l.length (Nat.le_refl _)
  rw [List.take_length, M.tkp, e2] at h1
  have h2 := kidsX_none l (fun j => !inB l id j) id x (fun j hj a c => by rw [all j hj a c]; rfl)
  rw [er] at h2
  obtain ⟨h3, h4⟩ := List.append_eq_nil_iff.1 h2
  rw [h3, h4, h1]
  simp
 ·have all : ∀ j, j < l.length → (nd l j).f0 ≠ id → (nd l j).f1 = x → inB l id j = false := by
   intro j hj hn hx
   cases hc : inB l id j with
   | false => rfl
   | true => exact absurd ⟨j, hj, hn, hx, hc⟩ hu
  have h1 := kidsX_sel l (fun j => !inB l id j) id x (fun j hj a c => by rw [all j hj a c]; rfl) l.length (Nat.le_refl _)
  rw [List.take_length, er] at h1
  have h2 := kidsX_none l (inB l id) id x all
  rw [M.tkp, e2] at h2
  rw [h2, List.append_nil]
  exact h1.symm
end
theorem kidsL_nodup (T : TreeAt l ds) (a : Int) : (kidsL l a).Nodup := by
 have h : (l.map (·.f0)).Nodup := by
  rw [List.nodup_iff_pairwise_ne, List.pairwise_iff_getElem]
  intro u v hu hv huv
  simp only [List.length_map] at hu hv
  simp only [List.getElem_map]
  have := T.ids u v huv hv
  simpa [rd_T24, hu, hv] using this
 exact h.sublist (List.Sublist.map _ List.filter_sublist)
theorem nodup_idx {a : List Int} (h : a.Nodup) {i j : Nat} (hi : i < a.length) (hj : j < a.length) (e : a[i] = a[j]) : i = j := by
 rw [List.nodup_iff_pairwise_ne, List.pairwise_iff_getElem] at h
 rcases Nat.lt_trichotomy i j with c | c | c
 ·exact absurd e (h i j hi hj c)
 ·exact c
 ·exact absurd e.symm (h j i hj hi c)
end Go.Proofs.Ytpafhhgoldenoaa.P
end
section
namespace Go.Proofs.Ytpafhhgoldenoaa.P
open Go.RowKit Go.Proofs.YtpafhhgoldenoaaW.PrintWords Go.Proofs.YtpafhhgoldenoaaW.PrintLast Go.Proofs.YtpafhhgoldenoaaW.PrintMore
open Go.Proofs.Ytpafhhgoldenoaa.XM
set_option linter.unusedVariables false
set_option linter.unusedSimpArgs false
variable {l : List S24} {ds : Nat → Int} {D : Places}
theorem Remove_at (hD : placesP l = some D) (T : TreeAt l ds) (P : PAt l ds l.length D) {j : Nat} (hj : j < l.length) :
  tree_Remove.f l (nd l j).f0 = if j = 0 then some ([], 24) else some (selP l (fun m => !inB l (nd l j).f0 m) l.length, 0) := by
 unfold tree_Remove.f
 rw [get_at' hD T P hj]
 simp only [Option.bind_some, if_true]
 by_cases h0 : j = 0
 ·subst h0; simp
 ·rw [if_neg (by omega), if_neg h0]
  unfold tree_split.f
  rw [if_pos T.len, split_sel T _ (T.id hj).1]
  simp
end Go.Proofs.Ytpafhhgoldenoaa.P
end

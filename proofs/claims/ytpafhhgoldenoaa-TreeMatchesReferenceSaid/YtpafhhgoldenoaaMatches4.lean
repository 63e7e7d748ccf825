import Derived.Test.YtpafhhgoldenoaaMatches3
/- Laws that the proof of Matches uses. -/
section
namespace Go.Proofs.Ytpafhhgoldenoaa.P
open Go.RowKit Go.Proofs.YtpafhhgoldenoaaW.PrintWords Go.Proofs.YtpafhhgoldenoaaW.PrintLast Go.Proofs.YtpafhhgoldenoaaW.PrintMore
attribute [local go_sem] max2_int min2_int max_two min_two max_three min_three max_four min_four
set_option linter.unusedVariables false
set_option linter.unusedSimpArgs false
def formelaw10_head.f (k : Nat)  : Option (Bool) := (formelaw10_example.f).bind fun t150 => ((tree_Kids.f k t150 1).bind fun bt153 => ((tree_Path.f t150 3).bind fun bt157 => ((tree_Insert.f t150 5 1 10 0 (⟨#[]⟩ : ByteArray) 4).bind fun bt162 => ((tree_Move.f t150 2 1 0).bind fun bt166 => ((tree_Move.f t150 2 3 0).bind fun bt170 => ((tree_Move.f t150 4 3 0).bind fun bt174 => ((tree_Remove.f t150 2).bind fun bt178 => ((tree_Find.f t150 4).bind fun bt182 => (if bt153.2 = 0 then (if bt157.2 = 0 then (if bt162.2 = 0 then (if bt166.2 = 0 then (if bt170.2 = 24 then (if bt174.2 = 25 then (if bt178.2 = 0 then (if bt182.2.2 = 0 then ((formeref10_SameInts.f k bt153.1 (([2, 4] : List Int))).bind fun t188 => (if t188 = true then ((formeref10_SameInts.f k bt157.1 (([1, 2, 3] : List Int))).bind fun t192 => (if t192 = true then (if 0 < (t150.length : Int) then (if 1 < (t150.length : Int) then (if 2 < (t150.length : Int) then (if 3 < (t150.length : Int) then ((formeref10_Same.f k bt162.1 (([(⟨(rd_T24 t150 0).f0, (rd_T24 t150 0).f1, (rd_T24 t150 0).f2, (rd_T24 t150 0).f3, (rd_T24 t150 0).f4⟩ : S24), (⟨(rd_T24 t150 1).f0, (rd_T24 t150 1).f1, (rd_T24 t150 1).f2, (rd_T24 t150 1).f3, (rd_T24 t150 1).f4⟩ : S24), (⟨(rd_T24 t150 2).f0, (rd_T24 t150 2).f1, (rd_T24 t150 2).f2, (rd_T24 t150 2).f3, (rd_T24 t150 2).f4⟩ : S24), (⟨5, 1, 10, 0, (⟨#[]⟩ : ByteArray)⟩ : S24), (⟨(rd_T24 t150 3).f0, (rd_T24 t150 3).f1, (rd_T24 t150 3).f2, (rd_T24 t150 3).f3, (rd_T24 t150 3).f4⟩ : S24)] : List (S24)))).bind fun t200 => (if t200 = true then ((formeref10_Same.f k bt166.1 (([(⟨(rd_T24 t150 0).f0, (rd_T24 t150 0).f1, (rd_T24 t150 0).f2, (rd_T24 t150 0).f3, (rd_T24 t150 0).f4⟩ : S24), (⟨(rd_T24 t150 3).f0, (rd_T24 t150 3).f1, (rd_T24 t150 3).f2, (rd_T24 t150 3).f3, (rd_T24 t150 3).f4⟩ : S24), (⟨(rd_T24 t150 1).f0, (rd_T24 t150 1).f1, (rd_T24 t150 1).f2, (rd_T24 t150 1).f3, (rd_T24 t150 1).f4⟩ : S24), (⟨(rd_T24 t150 2).f0, (rd_T24 t150 2).f1, (rd_T24 t150 2).f2, (rd_T24 t150 2).f3, (rd_T24 t150 2).f4⟩ : S24)] : List (S24)))).bind fun t208 => (if t208 = true then ((formeref10_Same.f k bt178.1 (([(⟨(rd_T24 t150 0).f0, (rd_T24 t150 0).f1, (rd_T24 t150 0).f2, (rd_T24 t150 0).f3, (rd_T24 t150 0).f4⟩ : S24), (⟨(rd_T24 t150 3).f0, (rd_T24 t150 3).f1, (rd_T24 t150 3).f2, (rd_T24 t150 3).f3, (rd_T24 t150 3).f4⟩ : S24)] : List (S24)))).bind fun t214 => (if t214 = true then (if bt182.1 = 3 then (if bt182.2.1 = true then ((tree_Valid.f t150).bind fun t215 => (if t215 = true then (if 1 ≤ (t150.length : Int) then ((tree_Valid.f (t150.drop 1)).bind fun t220 => (some (!t220))) else (none)) else (none))) else (none)) else (none)) else (none))) else (none))) else (none))) else (none)) else (none)) else (none)) else (none)) else (none))) else (none))) else (none)) else (none)) else (none)) else (none)) else (none)) else (none)) else (none)) else (none))))))))))
theorem formelaw10_head.mono : ∀ k, LeO (formelaw10_head.f k ) (formelaw10_head.f (k + 1) ) := by
 intro  k
 unfold formelaw10_head.f
 repeat' first
   | (with_reducible exact formeref10_Same.mono _ _ _)
   | (with_reducible exact formeref10_SameInts.mono _ _ _)
   | (with_reducible exact tree_Kids.mono _ _ _)
   | (with_reducible exact LeO.refl _)
   | (with_reducible exact LeO.none _)
   | (with_reducible refine LeO.ite ?_ ?_)
   | (with_reducible refine LeO.bind ?_ (fun _ => ?_))
   | exact formeref10_Same.mono _ _ _
   | exact formeref10_SameInts.mono _ _ _
   | exact tree_Kids.mono _ _ _
   | exact LeO.none _
   | refine LeO.ite ?_ ?_
   | refine LeO.bind ?_ (fun _ => ?_)
def formelaw10_head.T12 : Bool × List (List Nat × List Nat) := (true, [([], []), ([0], [0]), ([1], [1]), ([1], [1]), ([2, 3, 1, 1], [1, 2, 3]), ([1, 4], [1, 4]), ([5, 4], [5]), ([6], [6]), ([6], [6]), ([7, 8, 6, 6], [6, 7, 8]), ([6, 9], [6, 9]), ([10, 9], [10]), ([11], [11]), ([11], [11]), ([13, 11], [11, 13]), ([14, 11], [11, 14]), ([11], [11]), ([16, 11], [11, 16]), ([17, 11], [11, 17]), ([11], [11]), ([19, 11], [11, 19]), ([20, 11], [11, 20]), ([11], [11]), ([11], [11]), ([23, 11], [11, 23]), ([24, 11], [11, 24]), ([15, 18, 21, 22, 25, 11], [11, 15, 18, 21, 22, 25]), ([12, 26, 11, 11], [11, 12, 26]), ([11, 27], [11, 27]), ([28, 27], [28]), ([29], [29]), ([29], [29]), ([31, 29], [29, 31]), ([32, 29], [29, 32]), ([29], [29]), ([34, 29], [29, 34]), ([35, 29], [29, 35]), ([29], [29]), ([37, 29], [29, 37]), ([38, 29], [29, 38]), ([29], [29]), ([40, 29], [29, 40]), ([41, 29], [29, 41]), ([33, 36, 39, 42, 29], [29, 33, 36, 39, 42]), ([30, 43, 29, 29], [29, 30, 43]), ([29, 44], [29, 44]), ([45, 44, 0, 1, 2, 3, 4, 5, 6, 7, 8, 9, 10, 11, 12, 13, 14, 15, 16, 17, 18, 19, 20, 21, 22, 23, 24, 25, 26, 27, 28, 29, 30, 31, 32, 33, 34, 35, 36, 37, 38, 39, 40, 41, 42, 43, 44, 45], [0, 45])])
def formelaw10_head.B12 : List Nat := [0, 1, 3, 3, 15, 31, 63, 127, 127, 511, 1023, 2047, 4095, 4095, 12287, 28671, 4095, 69631, 200703, 4095, 528383, 1576959, 4095, 4095, 8392703, 25169919, 67104767, 134217727, 268435455, 536870911, 1073741823, 1073741823, 3221225471, 7516192767, 1073741823, 18253611007, 52613349375, 1073741823, 138512695295, 413390602239, 1073741823, 1100585369599, 3299608625151, 8795019280383, 17592186044415, 35184372088831, 70368744177663]
theorem formelaw10_head.tab12 : rtab .any (opsOf Try.f9 12) = formelaw10_head.T12 := by kernel_rfl
theorem formelaw10_head.bits12 : waitsOk formelaw10_head.T12.2 formelaw10_head.B12 = true := by kernel_rfl
def formelaw10_head.T13 : Bool × List (List Nat × List Nat) := (true, [([], []), ([0], [0]), ([1], [1]), ([1], [1]), ([3, 1], [1, 3]), ([4, 1], [1, 4]), ([1], [1]), ([6, 1], [1, 6]), ([7, 1], [1, 7]), ([5, 8, 1], [1, 5, 8]), ([2, 9, 1, 1], [1, 2, 9]), ([1, 10], [1, 10]), ([11, 10], [11]), ([12], [12]), ([13, 12], [12, 13]), ([12, 14], [12, 14]), ([15, 12], [15]), ([16], [16]), ([16, 17], [16, 17]), ([18, 16], [18]), ([19], [19]), ([20, 19, 19], [19, 20]), ([19, 21], [19, 21]), ([22, 21], [22]), ([23], [23]), ([24, 23], [23, 24]), ([25, 23, 23], [23, 25]), ([26, 23], [23, 26]), ([23, 27], [23, 27]), ([28, 26, 0, 1, 2, 3, 4, 5, 6, 7, 8, 9, 10, 11, 12, 13, 14, 15, 16, 17, 18, 19, 20, 21, 22, 23, 24, 25, 26, 27, 28], [28])])
def formelaw10_head.B13 : List Nat := [0, 1, 3, 3, 11, 27, 3, 67, 195, 507, 1023, 2047, 4095, 8191, 16383, 32767, 65535, 131071, 262143, 524287, 1048575, 2097151, 4194303, 8388607, 16777215, 33554431, 67108863, 134217727, 268435455, 536870911]
theorem formelaw10_head.tab13 : rtab .any (opsOf Try.f9 13) = formelaw10_head.T13 := by kernel_rfl
theorem formelaw10_head.bits13 : waitsOk formelaw10_head.T13.2 formelaw10_head.B13 = true := by kernel_rfl
set_option maxHeartbeats 8000000 in
set_option maxRecDepth 100000 in
theorem formelaw10_head.calls (k : Nat)  (r : Bool) (w : World) (h : formelaw10_head.f k  = some r) :
  Calls Try.prog 9 #[] w fun e w' => e = .returned (.bool r) ∧ Below w.heap.size w w' := by
 have hu24 := Try.underlying24
 have HB := Aside0.mk (Below.refl w.heap.size w)
 have H : ((formelaw10_example.f).bind fun t150 => ((tree_Kids.f k t150 1).bind fun bt153 => ((tree_Path.f t150 3).bind fun bt157 => ((tree_Insert.f t150 5 1 10 0 (⟨#[]⟩ : ByteArray) 4).bind fun bt162 => ((tree_Move.f t150 2 1 0).bind fun bt166 => ((tree_Move.f t150 2 3 0).bind fun bt170 => ((tree_Move.f t150 4 3 0).bind fun bt174 => ((tree_Remove.f t150 2).bind fun bt178 => ((tree_Find.f t150 4).bind fun bt182 => (if bt153.2 = 0 then (if bt157.2 = 0 then (if bt162.2 = 0 then (if bt166.2 = 0 then (if bt170.2 = 24 then (if bt174.2 = 25 then (if bt178.2 = 0 then (if bt182.2.2 = 0 then ((formeref10_SameInts.f k bt153.1 (([2, 4] : List Int))).bind fun t188 => (if t188 = true then ((formeref10_SameInts.f k bt157.1 (([1, 2, 3] : List Int))).bind fun t192 => (if t192 = true then (if 0 < (t150.length : Int) then (if 1 < (t150.length : Int) then (if 2 < (t150.length : Int) then (if 3 < (t150.length : Int) then ((formeref10_Same.f k bt162.1 (([(⟨(rd_T24 t150 0).f0, (rd_T24 t150 0).f1, (rd_T24 t150 0).f2, (rd_T24 t150 0).f3, (rd_T24 t150 0).f4⟩ : S24), (⟨(rd_T24 t150 1).f0, (rd_T24 t150 1).f1, (rd_T24 t150 1).f2, (rd_T24 t150 1).f3, (rd_T24 t150 1).f4⟩ : S24), (⟨(rd_T24 t150 2).f0, (rd_T24 t150 2).f1, (rd_T24 t150 2).f2, (rd_T24 t150 2).f3, (rd_T24 t150 2).f4⟩ : S24), (⟨5, 1, 10, 0, (⟨#[]⟩ : ByteArray)⟩ : S24), (⟨(rd_T24 t150 3).f0, (rd_T24 t150 3).f1, (rd_T24 t150 3).f2, (rd_T24 t150 3).f3, (rd_T24 t150 3).f4⟩ : S24)] : List (S24)))).bind fun t200 => (if t200 = true then ((formeref10_Same.f k bt166.1 (([(⟨(rd_T24 t150 0).f0, (rd_T24 t150 0).f1, (rd_T24 t150 0).f2, (rd_T24 t150 0).f3, (rd_T24 t150 0).f4⟩ : S24), (⟨(rd_T24 t150 3).f0, (rd_T24 t150 3).f1, (rd_T24 t150 3).f2, (rd_T24 t150 3).f3, (rd_T24 t150 3).f4⟩ : S24), (⟨(rd_T24 t150 1).f0, (rd_T24 t150 1).f1, (rd_T24 t150 1).f2, (rd_T24 t150 1).f3, (rd_T24 t150 1).f4⟩ : S24), (⟨(rd_T24 t150 2).f0, (rd_T24 t150 2).f1, (rd_T24 t150 2).f2, (rd_T24 t150 2).f3, (rd_T24 t150 2).f4⟩ : S24)] : List (S24)))).bind fun t208 => (if t208 = true then ((formeref10_Same.f k bt178.1 (([(⟨(rd_T24 t150 0).f0, (rd_T24 t150 0).f1, (rd_T24 t150 0).f2, (rd_T24 t150 0).f3, (rd_T24 t150 0).f4⟩ : S24), (⟨(rd_T24 t150 3).f0, (rd_T24 t150 3).f1, (rd_T24 t150 3).f2, (rd_T24 t150 3).f3, (rd_T24 t150 3).f4⟩ : S24)] : List (S24)))).bind fun t214 => (if t214 = true then (if bt182.1 = 3 then (if bt182.2.1 = true then ((tree_Valid.f t150).bind fun t215 => (if t215 = true then (if 1 ≤ (t150.length : Int) then ((tree_Valid.f (t150.drop 1)).bind fun t220 => (some (!t220))) else (none)) else (none))) else (none)) else (none)) else (none))) else (none))) else (none))) else (none)) else (none)) else (none)) else (none)) else (none))) else (none))) else (none)) else (none)) else (none)) else (none)) else (none)) else (none)) else (none)) else (none))))))))))) = some r := h
 clear h
 replace H := Option.bind_eq_some_iff.mp H
 obtain ⟨t150, A10, H⟩ := H
 try dsimp only at H
 have A1 := Aside0.mk A10
 clear A10
 replace H := Option.bind_eq_some_iff.mp H
 obtain ⟨⟨t153, t154⟩, A20, H⟩ := H
 try dsimp only at H
 have A2 := Aside0.mk A20
 clear A20
 replace H := Option.bind_eq_some_iff.mp H
 obtain ⟨⟨t157, t158⟩, A30, H⟩ := H
 try dsimp only at H
 have A3 := Aside0.mk A30
 clear A30
 replace H := Option.bind_eq_some_iff.mp H
 obtain ⟨⟨t162, t165⟩, A40, H⟩ := H
 try dsimp only at H
 have A4 := Aside0.mk A40
 clear A40
 replace H := Option.bind_eq_some_iff.mp H
 obtain ⟨⟨t166, t167⟩, A50, H⟩ := H
 try dsimp only at H
 have A5 := Aside0.mk A50
 clear A50
 replace H := Option.bind_eq_some_iff.mp H
 obtain ⟨⟨t170, t171⟩, A60, H⟩ := H
 try dsimp only at H
 have A6 := Aside0.mk A60
 clear A60
 replace H := Option.bind_eq_some_iff.mp H
 obtain ⟨⟨t174, t175⟩, A70, H⟩ := H
 try dsimp only at H
 have A7 := Aside0.mk A70
 clear A70
 replace H := Option.bind_eq_some_iff.mp H
 obtain ⟨⟨t178, t179⟩, A80, H⟩ := H
 try dsimp only at H
 have A8 := Aside0.mk A80
 clear A80
 replace H := Option.bind_eq_some_iff.mp H
 obtain ⟨⟨t182, t183, t184⟩, A90, H⟩ := H
 try dsimp only at H
 have A9 := Aside0.mk A90
 clear A90
 by_cases c10 : t154 = 0
 ·rw [if_pos c10] at H
  have c10b0 : (t154 == 0) = true := beq_iff_eq.mpr c10
  have c10b1 : (t154 != 0) = false := bne_eq_false_iff_eq.mpr c10
  clear c10
  by_cases c11 : t158 = 0
  rotate_left
  ·rw [if_neg c11] at H; exact absurd H (by simp)
  rw [if_pos c11] at H
  have c11b0 : (t158 == 0) = true := beq_iff_eq.mpr c11
  have c11b1 : (t158 != 0) = false := bne_eq_false_iff_eq.mpr c11
  clear c11
  by_cases c12 : t165 = 0
  rotate_left
  ·rw [if_neg c12] at H; exact absurd H (by simp)
  rw [if_pos c12] at H
  have c12b0 : (t165 == 0) = true := beq_iff_eq.mpr c12
  have c12b1 : (t165 != 0) = false := bne_eq_false_iff_eq.mpr c12
  clear c12
  by_cases c13 : t167 = 0
  rotate_left
  ·rw [if_neg c13] at H; exact absurd H (by simp)
  rw [if_pos c13] at H
  have c13b0 : (t167 == 0) = true := beq_iff_eq.mpr c13
  have c13b1 : (t167 != 0) = false := bne_eq_false_iff_eq.mpr c13
  clear c13
  by_cases c14 : t171 = 24
  rotate_left
  ·rw [if_neg c14] at H; exact absurd H (by simp)
  rw [if_pos c14] at H
  have c14b0 : (t171 == 24) = true := beq_iff_eq.mpr c14
  have c14b1 : (t171 != 24) = false := bne_eq_false_iff_eq.mpr c14
  clear c14
  by_cases c15 : t175 = 25
  rotate_left
  ·rw [if_neg c15] at H; exact absurd H (by simp)
  rw [if_pos c15] at H
  have c15b0 : (t175 == 25) = true := beq_iff_eq.mpr c15
  have c15b1 : (t175 != 25) = false := bne_eq_false_iff_eq.mpr c15
  clear c15
  by_cases c16 : t179 = 0
  rotate_left
  ·rw [if_neg c16] at H; exact absurd H (by simp)
  rw [if_pos c16] at H
  have c16b0 : (t179 == 0) = true := beq_iff_eq.mpr c16
  have c16b1 : (t179 != 0) = false := bne_eq_false_iff_eq.mpr c16
  clear c16
  by_cases c17 : t184 = 0
  rotate_left
  ·rw [if_neg c17] at H; exact absurd H (by simp)
  rw [if_pos c17] at H
  have c17b0 : (t184 == 0) = true := beq_iff_eq.mpr c17
  have c17b1 : (t184 != 0) = false := bne_eq_false_iff_eq.mpr c17
  clear c17
  obtain ⟨y185, hy185⟩ : ∃ y_ : List Int, y_ = (([2, 4] : List Int)) := ⟨_, rfl⟩
  replace H : ((formeref10_SameInts.f k t153 y185).bind fun t188 => (if t188 = true then ((formeref10_SameInts.f k t157 (([1, 2, 3] : List Int))).bind fun t192 => (if t192 = true then (if 0 < (t150.length : Int) then (if 1 < (t150.length : Int) then (if 2 < (t150.length : Int) then (if 3 < (t150.length : Int) then ((formeref10_Same.f k t162 (([(⟨(rd_T24 t150 0).f0, (rd_T24 t150 0).f1, (rd_T24 t150 0).f2, (rd_T24 t150 0).f3, (rd_T24 t150 0).f4⟩ : S24), (⟨(rd_T24 t150 1).f0, (rd_T24 t150 1).f1, (rd_T24 t150 1).f2, (rd_T24 t150 1).f3, (rd_T24 t150 1).f4⟩ : S24), (⟨(rd_T24 t150 2).f0, (rd_T24 t150 2).f1, (rd_T24 t150 2).f2, (rd_T24 t150 2).f3, (rd_T24 t150 2).f4⟩ : S24), (⟨5, 1, 10, 0, (⟨#[]⟩ : ByteArray)⟩ : S24), (⟨(rd_T24 t150 3).f0, (rd_T24 t150 3).f1, (rd_T24 t150 3).f2, (rd_T24 t150 3).f3, (rd_T24 t150 3).f4⟩ : S24)] : List (S24)))).bind fun t200 => (if t200 = true then ((formeref10_Same.f k t166 (([(⟨(rd_T24 t150 0).f0, (rd_T24 t150 0).f1, (rd_T24 t150 0).f2, (rd_T24 t150 0).f3, (rd_T24 t150 0).f4⟩ : S24), (⟨(rd_T24 t150 3).f0, (rd_T24 t150 3).f1, (rd_T24 t150 3).f2, (rd_T24 t150 3).f3, (rd_T24 t150 3).f4⟩ : S24), (⟨(rd_T24 t150 1).f0, (rd_T24 t150 1).f1, (rd_T24 t150 1).f2, (rd_T24 t150 1).f3, (rd_T24 t150 1).f4⟩ : S24), (⟨(rd_T24 t150 2).f0, (rd_T24 t150 2).f1, (rd_T24 t150 2).f2, (rd_T24 t150 2).f3, (rd_T24 t150 2).f4⟩ : S24)] : List (S24)))).bind fun t208 => (if t208 = true then ((formeref10_Same.f k t178 (([(⟨(rd_T24 t150 0).f0, (rd_T24 t150 0).f1, (rd_T24 t150 0).f2, (rd_T24 t150 0).f3, (rd_T24 t150 0).f4⟩ : S24), (⟨(rd_T24 t150 3).f0, (rd_T24 t150 3).f1, (rd_T24 t150 3).f2, (rd_T24 t150 3).f3, (rd_T24 t150 3).f4⟩ : S24)] : List (S24)))).bind fun t214 => (if t214 = true then (if t182 = 3 then (if t183 = true then ((tree_Valid.f t150).bind fun t215 => (if t215 = true then (if 1 ≤ (t150.length : Int) then ((tree_Valid.f (t150.drop 1)).bind fun t220 => (some (!t220))) else (none)) else (none))) else (none)) else (none)) else (none))) else (none))) else (none))) else (none)) else (none)) else (none)) else (none)) else (none))) else (none))) = some r := by first | (rw [hy185]; with_reducible exact H) | (have H2_ := (Option.bind_some _ _).symm.trans H; rw [hy185]; with_reducible exact H2_) | (have H2_ := (Option.bind_some _ _).symm.trans H; with_reducible exact H2_) | with_reducible exact H | (rw [hy185]; exact H) | exact H
  have Ny185 := Aside0.mk hy185
  clear hy185
  replace H := Option.bind_eq_some_iff.mp H
  obtain ⟨t188, A180, H⟩ := H
  try dsimp only at H
  have A18 := Aside0.mk A180
  clear A180
  by_cases c19 : t188 = true
  ·subst c19
   have H1 : ((formeref10_SameInts.f k t157 (([1, 2, 3] : List Int))).bind fun t192 => (if t192 = true then (if 0 < (t150.length : Int) then (if 1 < (t150.length : Int) then (if 2 < (t150.length : Int) then (if 3 < (t150.length : Int) then ((formeref10_Same.f k t162 (([(⟨(rd_T24 t150 0).f0, (rd_T24 t150 0).f1, (rd_T24 t150 0).f2, (rd_T24 t150 0).f3, (rd_T24 t150 0).f4⟩ : S24), (⟨(rd_T24 t150 1).f0, (rd_T24 t150 1).f1, (rd_T24 t150 1).f2, (rd_T24 t150 1).f3, (rd_T24 t150 1).f4⟩ : S24), (⟨(rd_T24 t150 2).f0, (rd_T24 t150 2).f1, (rd_T24 t150 2).f2, (rd_T24 t150 2).f3, (rd_T24 t150 2).f4⟩ : S24), (⟨5, 1, 10, 0, (⟨#[]⟩ : ByteArray)⟩ : S24), (⟨(rd_T24 t150 3).f0, (rd_T24 t150 3).f1, (rd_T24 t150 3).f2, (rd_T24 t150 3).f3, (rd_T24 t150 3).f4⟩ : S24)] : List (S24)))).bind fun t200 => (if t200 = true then ((formeref10_Same.f k t166 (([(⟨(rd_T24 t150 0).f0, (rd_T24 t150 0).f1, (rd_T24 t150 0).f2, (rd_T24 t150 0).f3, (rd_T24 t150 0).f4⟩ : S24), (⟨(rd_T24 t150 3).f0, (rd_T24 t150 3).f1, (rd_T24 t150 3).f2, (rd_T24 t150 3).f3, (rd_T24 t150 3).f4⟩ : S24), (⟨(rd_T24 t150 1).f0, (rd_T24 t150 1).f1, (rd_T24 t150 1).f2, (rd_T24 t150 1).f3, (rd_T24 t150 1).f4⟩ : S24), (⟨(rd_T24 t150 2).f0, (rd_T24 t150 2).f1, (rd_T24 t150 2).f2, (rd_T24 t150 2).f3, (rd_T24 t150 2).f4⟩ : S24)] : List (S24)))).bind fun t208 => (if t208 = true then ((formeref10_Same.f k t178 (([(⟨(rd_T24 t150 0).f0, (rd_T24 t150 0).f1, (rd_T24 t150 0).f2, (rd_T24 t150 0).f3, (rd_T24 t150 0).f4⟩ : S24), (⟨(rd_T24 t150 3).f0, (rd_T24 t150 3).f1, (rd_T24 t150 3).f2, (rd_T24 t150 3).f3, (rd_T24 t150 3).f4⟩ : S24)] : List (S24)))).bind fun t214 => (if t214 = true then (if t182 = 3 then (if t183 = true then ((tree_Valid.f t150).bind fun t215 => (if t215 = true then (if 1 ≤ (t150.length : Int) then ((tree_Valid.f (t150.drop 1)).bind fun t220 => (some (!t220))) else (none)) else (none))) else (none)) else (none)) else (none))) else (none))) else (none))) else (none)) else (none)) else (none)) else (none)) else (none))) = some r := by rw [if_pos rfl] at H; exact H
   clear H
   have H := H1
   clear H1
   obtain ⟨y189, hy189⟩ : ∃ y_ : List Int, y_ = (([1, 2, 3] : List Int)) := ⟨_, rfl⟩
   replace H : ((formeref10_SameInts.f k t157 y189).bind fun t192 => (if t192 = true then (if 0 < (t150.length : Int) then (if 1 < (t150.length : Int) then (if 2 < (t150.length : Int) then (if 3 < (t150.length : Int) then ((formeref10_Same.f k t162 (([(⟨(rd_T24 t150 0).f0, (rd_T24 t150 0).f1, (rd_T24 t150 0).f2, (rd_T24 t150 0).f3, (rd_T24 t150 0).f4⟩ : S24), (⟨(rd_T24 t150 1).f0, (rd_T24 t150 1).f1, (rd_T24 t150 1).f2, (rd_T24 t150 1).f3, (rd_T24 t150 1).f4⟩ : S24), (⟨(rd_T24 t150 2).f0, (rd_T24 t150 2).f1, (rd_T24 t150 2).f2, (rd_T24 t150 2).f3, (rd_T24 t150 2).f4⟩ : S24), (⟨5, 1, 10, 0, (⟨#[]⟩ : ByteArray)⟩ : S24), (⟨(rd_T24 t150 3).f0, (rd_T24 t150 3).f1, (rd_T24 t150 3).f2, (rd_T24 t150 3).f3, (rd_T24 t150 3).f4⟩ : S24)] : List (S24)))).bind fun t200 => (if t200 = true then ((formeref10_Same.f k t166 (([(⟨(rd_T24 t150 0).f0, (rd_T24 t150 0).f1, (rd_T24 t150 0).f2, (rd_T24 t150 0).f3, (rd_T24 t150 0).f4⟩ : S24), (⟨(rd_T24 t150 3).f0, (rd_T24 t150 3).f1, (rd_T24 t150 3).f2, (rd_T24 t150 3).f3, (rd_T24 t150 3).f4⟩ : S24), (⟨(rd_T24 t150 1).f0, (rd_T24 t150 1).f1, (rd_T24 t150 1).f2, (rd_T24 t150 1).f3, (rd_T24 t150 1).f4⟩ : S24), (⟨(rd_T24 t150 2).f0, (rd_T24 t150 2).f1, (rd_T24 t150 2).f2, (rd_T24 t150 2).f3, (rd_T24 t150 2).f4⟩ : S24)] : List (S24)))).bind fun t208 => (if t208 = true then ((formeref10_Same.f k t178 (([(⟨(rd_T24 t150 0).f0, (rd_T24 t150 0).f1, (rd_T24 t150 0).f2, (rd_T24 t150 0).f3, (rd_T24 t150 0).f4⟩ : S24), (⟨(rd_T24 t150 3).f0, (rd_T24 t150 3).f1, (rd_T24 t150 3).f2, (rd_T24 t150 3).f3, (rd_T24 t150 3).f4⟩ : S24)] : List (S24)))).bind fun t214 => (if t214 = true then (if t182 = 3 then (if t183 = true then ((tree_Valid.f t150).bind fun t215 => (if t215 = true then (if 1 ≤ (t150.length : Int) then ((tree_Valid.f (t150.drop 1)).bind fun t220 => (some (!t220))) else (none)) else (none))) else (none)) else (none)) else (none))) else (none))) else (none))) else (none)) else (none)) else (none)) else (none)) else (none))) = some r := by first | (rw [hy189]; with_reducible exact H) | (have H2_ := (Option.bind_some _ _).symm.trans H; rw [hy189]; with_reducible exact H2_) | (have H2_ := (Option.bind_some _ _).symm.trans H; with_reducible exact H2_) | with_reducible exact H | (rw [hy189]; exact H) | exact H
   have Ny189 := Aside0.mk hy189
   clear hy189
   replace H := Option.bind_eq_some_iff.mp H
   obtain ⟨t192, A200, H⟩ := H
   try dsimp only at H
   have A20 := Aside0.mk A200
   clear A200
   by_cases c21 : t192 = true
   ·subst c21
    have H1 : (if 0 < (t150.length : Int) then (if 1 < (t150.length : Int) then (if 2 < (t150.length : Int) then (if 3 < (t150.length : Int) then ((formeref10_Same.f k t162 (([(⟨(rd_T24 t150 0).f0, (rd_T24 t150 0).f1, (rd_T24 t150 0).f2, (rd_T24 t150 0).f3, (rd_T24 t150 0).f4⟩ : S24), (⟨(rd_T24 t150 1).f0, (rd_T24 t150 1).f1, (rd_T24 t150 1).f2, (rd_T24 t150 1).f3, (rd_T24 t150 1).f4⟩ : S24), (⟨(rd_T24 t150 2).f0, (rd_T24 t150 2).f1, (rd_T24 t150 2).f2, (rd_T24 t150 2).f3, (rd_T24 t150 2).f4⟩ : S24), (⟨5, 1, 10, 0, (⟨#[]⟩ : ByteArray)⟩ : S24), (⟨(rd_T24 t150 3).f0, (rd_T24 t150 3).f1, (rd_T24 t150 3).f2, (rd_T24 t150 3).f3, (rd_T24 t150 3).f4⟩ : S24)] : List (S24)))).bind fun t200 => (if t200 = true then ((formeref10_Same.f k t166 (([(⟨(rd_T24 t150 0).f0, (rd_T24 t150 0).f1, (rd_T24 t150 0).f2, (rd_T24 t150 0).f3, (rd_T24 t150 0).f4⟩ : S24), (⟨(rd_T24 t150 3).f0, (rd_T24 t150 3).f1, (rd_T24 t150 3).f2, (rd_T24 t150 3).f3, (rd_T24 t150 3).f4⟩ : S24), (⟨(rd_T24 t150 1).f0, (rd_T24 t150 1).f1, (rd_T24 t150 1).f2, (rd_T24 t150 1).f3, (rd_T24 t150 1).f4⟩ : S24), (⟨(rd_T24 t150 2).f0, (rd_T24 t150 2).f1, (rd_T24 t150 2).f2, (rd_T24 t150 2).f3, (rd_T24 t150 2).f4⟩ : S24)] : List (S24)))).bind fun t208 => (if t208 = true then ((formeref10_Same.f k t178 (([(⟨(rd_T24 t150 0).f0, (rd_T24 t150 0).f1, (rd_T24 t150 0).f2, (rd_T24 t150 0).f3, (rd_T24 t150 0).f4⟩ : S24), (⟨(rd_T24 t150 3).f0, (rd_T24 t150 3).f1, (rd_T24 t150 3).f2, (rd_T24 t150 3).f3, (rd_T24 t150 3).f4⟩ : S24)] : List (S24)))).bind fun t214 => (if t214 = true then (if t182 = 3 then (if t183 = true then ((tree_Valid.f t150).bind fun t215 => (if t215 = true then (if 1 ≤ (t150.length : Int) then ((tree_Valid.f (t150.drop 1)).bind fun t220 => (some (!t220))) else (none)) else (none))) else (none)) else (none)) else (none))) else (none))) else (none))) else (none)) else (none)) else (none)) else (none)) = some r := by rw [if_pos rfl] at H; exact H
    clear H
    have H := H1
    clear H1
    by_cases c22 : 0 < (t150.length : Int)
    rotate_left
    ·rw [if_neg c22] at H; exact absurd H (by simp)
    rw [if_pos c22] at H
    have c22b0 : decide (0 < (t150.length : Int)) = true := decide_eq_true c22
    have c22b1 : decide (0 < t150.length) = true := decide_eq_true (by omega)
    clear c22
    by_cases c23 : 1 < (t150.length : Int)
    rotate_left
    ·rw [if_neg c23] at H; exact absurd H (by simp)
    rw [if_pos c23] at H
    have c23b0 : decide (1 < (t150.length : Int)) = true := decide_eq_true c23
    have c23b1 : decide (1 < t150.length) = true := decide_eq_true (by omega)
    clear c23
    by_cases c24 : 2 < (t150.length : Int)
    rotate_left
    ·rw [if_neg c24] at H; exact absurd H (by simp)
    rw [if_pos c24] at H
    have c24b0 : decide (2 < (t150.length : Int)) = true := decide_eq_true c24
    have c24b1 : decide (2 < t150.length) = true := decide_eq_true (by omega)
    clear c24
    by_cases c25 : 3 < (t150.length : Int)
    rotate_left
    ·rw [if_neg c25] at H; exact absurd H (by simp)
    rw [if_pos c25] at H
    have c25b0 : decide (3 < (t150.length : Int)) = true := decide_eq_true c25
    have c25b1 : decide (3 < t150.length) = true := decide_eq_true (by omega)
    clear c25
    obtain ⟨y197, hy197⟩ : ∃ y_ : List (S24), y_ = (([(⟨(rd_T24 t150 0).f0, (rd_T24 t150 0).f1, (rd_T24 t150 0).f2, (rd_T24 t150 0).f3, (rd_T24 t150 0).f4⟩ : S24), (⟨(rd_T24 t150 1).f0, (rd_T24 t150 1).f1, (rd_T24 t150 1).f2, (rd_T24 t150 1).f3, (rd_T24 t150 1).f4⟩ : S24), (⟨(rd_T24 t150 2).f0, (rd_T24 t150 2).f1, (rd_T24 t150 2).f2, (rd_T24 t150 2).f3, (rd_T24 t150 2).f4⟩ : S24), (⟨5, 1, 10, 0, (⟨#[]⟩ : ByteArray)⟩ : S24), (⟨(rd_T24 t150 3).f0, (rd_T24 t150 3).f1, (rd_T24 t150 3).f2, (rd_T24 t150 3).f3, (rd_T24 t150 3).f4⟩ : S24)] : List (S24))) := ⟨_, rfl⟩
    replace H : ((formeref10_Same.f k t162 y197).bind fun t200 => (if t200 = true then ((formeref10_Same.f k t166 (([(⟨(rd_T24 t150 0).f0, (rd_T24 t150 0).f1, (rd_T24 t150 0).f2, (rd_T24 t150 0).f3, (rd_T24 t150 0).f4⟩ : S24), (⟨(rd_T24 t150 3).f0, (rd_T24 t150 3).f1, (rd_T24 t150 3).f2, (rd_T24 t150 3).f3, (rd_T24 t150 3).f4⟩ : S24), (⟨(rd_T24 t150 1).f0, (rd_T24 t150 1).f1, (rd_T24 t150 1).f2, (rd_T24 t150 1).f3, (rd_T24 t150 1).f4⟩ : S24), (⟨(rd_T24 t150 2).f0, (rd_T24 t150 2).f1, (rd_T24 t150 2).f2, (rd_T24 t150 2).f3, (rd_T24 t150 2).f4⟩ : S24)] : List (S24)))).bind fun t208 => (if t208 = true then ((formeref10_Same.f k t178 (([(⟨(rd_T24 t150 0).f0, (rd_T24 t150 0).f1, (rd_T24 t150 0).f2, (rd_T24 t150 0).f3, (rd_T24 t150 0).f4⟩ : S24), (⟨(rd_T24 t150 3).f0, (rd_T24 t150 3).f1, (rd_T24 t150 3).f2, (rd_T24 t150 3).f3, (rd_T24 t150 3).f4⟩ : S24)] : List (S24)))).bind fun t214 => (if t214 = true then (if t182 = 3 then (if t183 = true then ((tree_Valid.f t150).bind fun t215 => (if t215 = true then (if 1 ≤ (t150.length : Int) then ((tree_Valid.f (t150.drop 1)).bind fun t220 => (some (!t220))) else (none)) else (none))) else (none)) else (none)) else (none))) else (none))) else (none))) = some r := by first | (rw [hy197]; with_reducible exact H) | (have H2_ := (Option.bind_some _ _).symm.trans H; rw [hy197]; with_reducible exact H2_) | (have H2_ := (Option.bind_some _ _).symm.trans H; with_reducible exact H2_) | with_reducible exact H | (rw [hy197]; exact H) | exact H
    have Ny197 := Aside0.mk hy197
    clear hy197
    replace H := Option.bind_eq_some_iff.mp H
    obtain ⟨t200, A260, H⟩ := H
    try dsimp only at H
    have A26 := Aside0.mk A260
    clear A260
    by_cases c27 : t200 = true
    ·subst c27
     have H1 : ((formeref10_Same.f k t166 (([(⟨(rd_T24 t150 0).f0, (rd_T24 t150 0).f1, (rd_T24 t150 0).f2, (rd_T24 t150 0).f3, (rd_T24 t150 0).f4⟩ : S24), (⟨(rd_T24 t150 3).f0, (rd_T24 t150 3).f1, (rd_T24 t150 3).f2, (rd_T24 t150 3).f3, (rd_T24 t150 3).f4⟩ : S24), (⟨(rd_T24 t150 1).f0, (rd_T24 t150 1).f1, (rd_T24 t150 1).f2, (rd_T24 t150 1).f3, (rd_T24 t150 1).f4⟩ : S24), (⟨(rd_T24 t150 2).f0, (rd_T24 t150 2).f1, (rd_T24 t150 2).f2, (rd_T24 t150 2).f3, (rd_T24 t150 2).f4⟩ : S24)] : List (S24)))).bind fun t208 => (if t208 = true then ((formeref10_Same.f k t178 (([(⟨(rd_T24 t150 0).f0, (rd_T24 t150 0).f1, (rd_T24 t150 0).f2, (rd_T24 t150 0).f3, (rd_T24 t150 0).f4⟩ : S24), (⟨(rd_T24 t150 3).f0, (rd_T24 t150 3).f1, (rd_T24 t150 3).f2, (rd_T24 t150 3).f3, (rd_T24 t150 3).f4⟩ : S24)] : List (S24)))).bind fun t214 => (if t214 = true then (if t182 = 3 then (if t183 = true then ((tree_Valid.f t150).bind fun t215 => (if t215 = true then (if 1 ≤ (t150.length : Int) then ((tree_Valid.f (t150.drop 1)).bind fun t220 => (some (!t220))) else (none)) else (none))) else (none)) else (none)) else (none))) else (none))) = some r := by rw [if_pos rfl] at H; exact H
     clear H
     have H := H1
     clear H1
     obtain ⟨y205, hy205⟩ : ∃ y_ : List (S24), y_ = (([(⟨(rd_T24 t150 0).f0, (rd_T24 t150 0).f1, (rd_T24 t150 0).f2, (rd_T24 t150 0).f3, (rd_T24 t150 0).f4⟩ : S24), (⟨(rd_T24 t150 3).f0, (rd_T24 t150 3).f1, (rd_T24 t150 3).f2, (rd_T24 t150 3).f3, (rd_T24 t150 3).f4⟩ : S24), (⟨(rd_T24 t150 1).f0, (rd_T24 t150 1).f1, (rd_T24 t150 1).f2, (rd_T24 t150 1).f3, (rd_T24 t150 1).f4⟩ : S24), (⟨(rd_T24 t150 2).f0, (rd_T24 t150 2).f1, (rd_T24 t150 2).f2, (rd_T24 t150 2).f3, (rd_T24 t150 2).f4⟩ : S24)] : List (S24))) := ⟨_, rfl⟩
     replace H : ((formeref10_Same.f k t166 y205).bind fun t208 => (if t208 = true then ((formeref10_Same.f k t178 (([(⟨(rd_T24 t150 0).f0, (rd_T24 t150 0).f1, (rd_T24 t150 0).f2, (rd_T24 t150 0).f3, (rd_T24 t150 0).f4⟩ : S24), (⟨(rd_T24 t150 3).f0, (rd_T24 t150 3).f1, (rd_T24 t150 3).f2, (rd_T24 t150 3).f3, (rd_T24 t150 3).f4⟩ : S24)] : List (S24)))).bind fun t214 => (if t214 = true then (if t182 = 3 then (if t183 = true then ((tree_Valid.f t150).bind fun t215 => (if t215 = true then (if 1 ≤ (t150.length : Int) then ((tree_Valid.f (t150.drop 1)).bind fun t220 => (some (!t220))) else (none)) else (none))) else (none)) else (none)) else (none))) else (none))) = some r := by first | (rw [hy205]; with_reducible exact H) | (have H2_ := (Option.bind_some _ _).symm.trans H; rw [hy205]; with_reducible exact H2_) | (have H2_ := (Option.bind_some _ _).symm.trans H; with_reducible exact H2_) | with_reducible exact H | (rw [hy205]; exact H) | exact H
     have Ny205 := Aside0.mk hy205
     clear hy205
     replace H := Option.bind_eq_some_iff.mp H
     obtain ⟨t208, A280, H⟩ := H
     try dsimp only at H
     have A28 := Aside0.mk A280
     clear A280
     by_cases c29 : t208 = true
     ·subst c29
      have H1 : ((formeref10_Same.f k t178 (([(⟨(rd_T24 t150 0).f0, (rd_T24 t150 0).f1, (rd_T24 t150 0).f2, (rd_T24 t150 0).f3, (rd_T24 t150 0).f4⟩ : S24), (⟨(rd_T24 t150 3).f0, (rd_T24 t150 3).f1, (rd_T24 t150 3).f2, (rd_T24 t150 3).f3, (rd_T24 t150 3).f4⟩ : S24)] : List (S24)))).bind fun t214 => (if t214 = true then (if t182 = 3 then (if t183 = true then ((tree_Valid.f t150).bind fun t215 => (if t215 = true then (if 1 ≤ (t150.length : Int) then ((tree_Valid.f (t150.drop 1)).bind fun t220 => (some (!t220))) else (none)) else (none))) else (none)) else (none)) else (none))) = some r := by rw [if_pos rfl] at H; exact H
      clear H
      have H := H1
      clear H1
      obtain ⟨y211, hy211⟩ : ∃ y_ : List (S24), y_ = (([(⟨(rd_T24 t150 0).f0, (rd_T24 t150 0).f1, (rd_T24 t150 0).f2, (rd_T24 t150 0).f3, (rd_T24 t150 0).f4⟩ : S24), (⟨(rd_T24 t150 3).f0, (rd_T24 t150 3).f1, (rd_T24 t150 3).f2, (rd_T24 t150 3).f3, (rd_T24 t150 3).f4⟩ : S24)] : List (S24))) := ⟨_, rfl⟩
      replace H : ((formeref10_Same.f k t178 y211).bind fun t214 => (if t214 = true then (if t182 = 3 then (if t183 = true then ((tree_Valid.f t150).bind fun t215 => (if t215 = true then (if 1 ≤ (t150.length : Int) then ((tree_Valid.f (t150.drop 1)).bind fun t220 => (some (!t220))) else (none)) else (none))) else (none)) else (none)) else (none))) = some r := by first | (rw [hy211]; with_reducible exact H) | (have H2_ := (Option.bind_some _ _).symm.trans H; rw [hy211]; with_reducible exact H2_) | (have H2_ := (Option.bind_some _ _).symm.trans H; with_reducible exact H2_) | with_reducible exact H | (rw [hy211]; exact H) | exact H
      have Ny211 := Aside0.mk hy211
      clear hy211
      replace H := Option.bind_eq_some_iff.mp H
      obtain ⟨t214, A300, H⟩ := H
      try dsimp only at H
      have A30 := Aside0.mk A300
      clear A300
      by_cases c31 : t214 = true
      ·subst c31
       have H1 : (if t182 = 3 then (if t183 = true then ((tree_Valid.f t150).bind fun t215 => (if t215 = true then (if 1 ≤ (t150.length : Int) then ((tree_Valid.f (t150.drop 1)).bind fun t220 => (some (!t220))) else (none)) else (none))) else (none)) else (none)) = some r := by rw [if_pos rfl] at H; exact H
       clear H
       have H := H1
       clear H1
       by_cases c32 : t182 = 3
       rotate_left
       ·rw [if_neg c32] at H; exact absurd H (by simp)
       rw [if_pos c32] at H
       have c32b0 : (t182 == 3) = true := beq_iff_eq.mpr c32
       have c32b1 : (t182 != 3) = false := bne_eq_false_iff_eq.mpr c32
       clear c32
       by_cases c33 : t183 = true
       ·subst c33
        have H1 : ((tree_Valid.f t150).bind fun t215 => (if t215 = true then (if 1 ≤ (t150.length : Int) then ((tree_Valid.f (t150.drop 1)).bind fun t220 => (some (!t220))) else (none)) else (none))) = some r := by rw [if_pos rfl] at H; exact H
        clear H
        have H := H1
        clear H1
        replace H := Option.bind_eq_some_iff.mp H
        obtain ⟨t215, A340, H⟩ := H
        try dsimp only at H
        have A34 := Aside0.mk A340
        clear A340
        by_cases c35 : t215 = true
        ·subst c35
         have H1 : (if 1 ≤ (t150.length : Int) then ((tree_Valid.f (t150.drop 1)).bind fun t220 => (some (!t220))) else (none)) = some r := by rw [if_pos rfl] at H; exact H
         clear H
         have H := H1
         clear H1
         by_cases c36 : 1 ≤ (t150.length : Int)
         rotate_left
         ·rw [if_neg c36] at H; exact absurd H (by simp)
         rw [if_pos c36] at H
         have c36b0 := eq_true c36
         have c36b1 : decide (1 ≤ (t150.length : Int)) = true := decide_eq_true c36
         clear c36
         obtain ⟨y216, hy216⟩ : ∃ y_ : List (S24), y_ = (t150.drop 1) := ⟨_, rfl⟩
         replace H : ((tree_Valid.f y216).bind fun t220 => (some (!t220))) = some r := by first | (rw [hy216]; with_reducible exact H) | (have H2_ := (Option.bind_some _ _).symm.trans H; rw [hy216]; with_reducible exact H2_) | (have H2_ := (Option.bind_some _ _).symm.trans H; with_reducible exact H2_) | with_reducible exact H | (rw [hy216]; exact H) | exact H
         have Ny216 := Aside0.mk hy216
         clear hy216
         replace H := Option.bind_eq_some_iff.mp H
         obtain ⟨t220, A370, H⟩ := H
         try dsimp only at H
         have A37 := Aside0.mk A370
         clear A370
         obtain rfl := Option.some.inj H
         go_enter Try.func9, Try.ntmps9
         try go_wp2_with (first | ((with_reducible refine gate_callee (f := 30) rfl ?_); refine goesL_ (some 21) rfl rfl Try.func30 (by kernel_rfl) rfl #[] rfl z2_ ?_; (with_reducible refine (formelaw10_example.calls  t150 _ A1.out).mono ?_); rintro e w38 ⟨v151, rfl, ho0, hb⟩; refine ⟨_, rfl, ?_⟩; have n0_ := Aside0.mk (Kd.R_lower ho0 (below_size z1_)); have n1_ := Aside0.mk (below_step z1_ hb); clear HB; have HO152 := n0_; have HB := n1_; clear n0_ n1_; (try clear hb); (try clear hb2); (try clear hk); (try clear hi); (try clear ho0); obtain ⟨Ao39, co39, eo39⟩ := Kd.R_slice HO152.out; subst eo39) | ((with_reducible refine gate_callee (f := 15) rfl ?_); refine goesL_ (some 24) rfl rfl Try.func15 (by kernel_rfl) rfl #[.slice Ao39 t150.length co39, .int .i64 1] rfl z2_ ?_; (with_reducible refine (tree_Kids.calls k _ _ t150 1 t153 t154 _ ?side1 ?side2 A2.out).mono ?_); (case side1 => exact z27_); (case side2 => exact z61_); rintro e w40 ⟨v155, rfl, ho0, hb⟩; refine ⟨_, rfl, ?_⟩; have n0_ := Aside0.mk (Kd.R_below z15_ hb); have n1_ := Aside0.mk (Kd.R_lower ho0 (below_size z1_)); have n2_ := Aside0.mk (below_step z1_ hb); clear HO152; clear HB; have HO152 := n0_; have HO156 := n1_; have HB := n2_; clear n0_ n1_ n2_; (try clear hb); (try clear hb2); (try clear hk); (try clear hi); (try clear ho0)) | ((with_reducible refine gate_callee (f := 18) rfl ?_); refine goesL_ (some 29) rfl rfl Try.func18 (by kernel_rfl) rfl #[.slice Ao39 t150.length co39, .int .i64 3] rfl z2_ ?_; (with_reducible refine (tree_Path.calls _ _ t150 3 t157 t158 _ ?side1 ?side2 A3.out).mono ?_); (case side1 => exact z27_); (case side2 => exact z61_); rintro e w41 ⟨v159, rfl, ho0, hb⟩; refine ⟨_, rfl, ?_⟩; have n0_ := Aside0.mk (Kd.R_below z15_ hb); have n1_ := Aside0.mk (Kd.R_elder' z20_ (Kd.R_base ho0) hb); have n2_ := Aside0.mk (Kd.R_lower (Kd.R_new' ho0 (Kd.R_lt z20_)) (below_size z1_)); have n3_ := Aside0.mk (below_step z1_ hb); clear HO152; clear HO156; clear HB; have HO152 := n0_; have HO156 := n1_; have HO160 := n2_; have HB := n3_; clear n0_ n1_ n2_ n3_; (try clear hb); (try clear hb2); (try clear hk); (try clear hi); (try clear ho0)) | ((with_reducible refine gate_dst (N := 6) rfl ?_); (try (refine gate_guard (by rfl) ?_; dsimp only)); refine box_event ?hg (N := 6) ?hd (cs := #[.int .i64 0, .int .i64 0, .int .i64 0, .int .i64 0, .string (⟨#[]⟩ : ByteArray)]) (t := 24) ?hr ?_; (case hd => rfl); (case hg => rfl); (case hr => exact z13_); intro gb161 hg w42 hbox hb; have n0_ := Aside0.mk (Kd.R_below (Kd.R_elderB z15_ gb161 (Nat.le_of_eq hg.symm)) hb); have n1_ := Aside0.mk (Kd.R_below z20_ hb); have n2_ := Aside0.mk (Kd.R_below z23_ hb); have n3_ := Aside0.mk (below_step z1_ hb); have n4_ := Aside0.mk (hbox); have n5_ := Aside0.mk ((by rw [hg]; exact (below_size z1_) : w.heap.size ≤ gb161)); have n6_ := Aside0.mk ((by rw [hg]; exact (below_size z1_) : w.heap.size ≤ gb161)); clear HO152; clear HO156; clear HO160; clear HB; have HO152 := n0_; have HO156 := n1_; have HO160 := n2_; have HB := n3_; have BK161 := n4_; have GW161 := n5_; have GE161 := n6_; clear n0_ n1_ n2_ n3_ n4_ n5_ n6_; clear hb hbox hg; have hcz43_0 : w42.cell? ⟨gb161, 0, none⟩ = some (.int .i64 0) := (blk_cell BK161.out 0).trans rfl; have hcz43_1 : w42.cell? ⟨gb161, 1, none⟩ = some (.int .i64 0) := (blk_cell BK161.out 1).trans rfl; have hcz43_2 : w42.cell? ⟨gb161, 2, none⟩ = some (.int .i64 0) := (blk_cell BK161.out 2).trans rfl; have hcz43_3 : w42.cell? ⟨gb161, 3, none⟩ = some (.int .i64 0) := (blk_cell BK161.out 3).trans rfl; have hcz43_4 : w42.cell? ⟨gb161, 4, none⟩ = some (.string (⟨#[]⟩ : ByteArray)) := (blk_cell BK161.out 4).trans rfl; have hfz43_0 := blk_frozen BK161.out 0; have hfz43_1 := blk_frozen BK161.out 1; have hfz43_2 := blk_frozen BK161.out 2; have hfz43_3 := blk_frozen BK161.out 3; have hfz43_4 := blk_frozen BK161.out 4) | ((with_reducible refine gate_callee (f := 20) rfl ?_); refine goesL_ (some 36) rfl rfl Try.func20 (by kernel_rfl) rfl #[.slice Ao39 t150.length co39, .agg #[.int .i64 5, .int .i64 1, .int .i64 10, .int .i64 0, .string (⟨#[]⟩ : ByteArray)], .int .i64 4] rfl z2_ ?_; (with_reducible refine (tree_Insert.calls _ _ t150 5 1 10 0 (⟨#[]⟩ : ByteArray) 4 t162 t165 _ ?side1 ?side2 A4.out).mono ?_); (case side1 => refine (Kd.R_reads' (e := 24) (base := w.heap.size) (ok := fun k_ => (True ∧ k_ ≠ gb161)) (n := t150.length) (c := co39) ?_).2.2; exact z29_); (case side2 => exact z61_); rintro e w44 ⟨v163, rfl, ho0, hb⟩; refine ⟨_, rfl, ?_⟩; have n0_ := Aside0.mk (Kd.R_elder' z29_ (Kd.R_base ho0) hb); have n1_ := Aside0.mk (Kd.R_below (by (with_reducible repeat (first | apply Kd.R_alloc | apply Kd.R_drewN | apply Kd.R_drew)); exact (Kd.R_mono (Kd.R_far (p := ⟨gb161, 4, none⟩) (Kd.R_far (p := ⟨gb161, 3, none⟩) (Kd.R_far (p := ⟨gb161, 2, none⟩) (Kd.R_far (p := ⟨gb161, 1, none⟩) (Kd.R_far (p := ⟨gb161, 0, none⟩) (Kd.R_types HO156.out BK161.out (by decide)) (fun _ hk => hk.2) (.int .i64 5)) (fun _ hk => hk.2) (.int .i64 1)) (fun _ hk => hk.2) (.int .i64 10)) (fun _ hk => hk.2) (.int .i64 0)) (fun _ hk => hk.2) (.string (⟨#[]⟩ : ByteArray))) (fun _ h_ => h_.1))) hb); have n2_ := Aside0.mk (Kd.R_below (by (with_reducible repeat (first | apply Kd.R_alloc | apply Kd.R_drewN | apply Kd.R_drew)); exact (Kd.R_mono (Kd.R_far (p := ⟨gb161, 4, none⟩) (Kd.R_far (p := ⟨gb161, 3, none⟩) (Kd.R_far (p := ⟨gb161, 2, none⟩) (Kd.R_far (p := ⟨gb161, 1, none⟩) (Kd.R_far (p := ⟨gb161, 0, none⟩) (Kd.R_types HO160.out BK161.out (by decide)) (fun _ hk => hk.2) (.int .i64 5)) (fun _ hk => hk.2) (.int .i64 1)) (fun _ hk => hk.2) (.int .i64 10)) (fun _ hk => hk.2) (.int .i64 0)) (fun _ hk => hk.2) (.string (⟨#[]⟩ : ByteArray))) (fun _ h_ => h_.1))) hb); have n3_ := Aside0.mk (Kd.R_lower (Kd.R_newB (Kd.R_new' ho0 (Kd.R_lt z29_)) (g := gb161) (o := .cells #[.int .i64 5, .int .i64 1, .int .i64 10, .int .i64 0, .string (⟨#[]⟩ : ByteArray)] 24 (0, 0)) z37_) (below_size z8_)); have n4_ := Aside0.mk (blk_below (g := gb161) (o := .cells #[.int .i64 5, .int .i64 1, .int .i64 10, .int .i64 0, .string (⟨#[]⟩ : ByteArray)] 24 (0, 0)) z37_ hb); have n5_ := Aside0.mk (below_step z8_ hb); clear HO152; clear HO156; clear HO160; clear BK161; clear HB; have HO152 := n0_; have HO156 := n1_; have HO160 := n2_; have HO164 := n3_; have BK161 := n4_; have HB := n5_; clear n0_ n1_ n2_ n3_ n4_ n5_; (try clear hb); (try clear hb2); (try clear hk); (try clear hi); (try clear ho0)) | ((with_reducible refine gate_callee (f := 25) rfl ?_); refine goesL_ (some 41) rfl rfl Try.func25 (by kernel_rfl) rfl #[.slice Ao39 t150.length co39, .int .i64 2, .int .i64 1, .int .i64 0] rfl z2_ ?_; (with_reducible refine (tree_Move.calls _ _ t150 2 1 0 t166 t167 _ ?side1 ?side2 A5.out).mono ?_); (case side1 => exact z27_); (case side2 => exact z61_); rintro e w45 ⟨v168, rfl, ho0, hb⟩; refine ⟨_, rfl, ?_⟩; have n0_ := Aside0.mk (Kd.R_elder' z15_ (Kd.R_base ho0) hb); have n1_ := Aside0.mk (Kd.R_below z20_ hb); have n2_ := Aside0.mk (Kd.R_below z23_ hb); have n3_ := Aside0.mk (Kd.R_elder' z18_ (Kd.R_base ho0) hb); have n4_ := Aside0.mk (Kd.R_lower (Kd.R_newB (Kd.R_new' (Kd.R_new' ho0 (Kd.R_lt z15_)) (Kd.R_lt z18_)) (g := gb161) (o := .cells #[.int .i64 5, .int .i64 1, .int .i64 10, .int .i64 0, .string (⟨#[]⟩ : ByteArray)] 24 (0, 0)) z14_) (below_size z8_)); have n5_ := Aside0.mk (blk_below (g := gb161) (o := .cells #[.int .i64 5, .int .i64 1, .int .i64 10, .int .i64 0, .string (⟨#[]⟩ : ByteArray)] 24 (0, 0)) z14_ hb); have n6_ := Aside0.mk (below_step z8_ hb); clear HO152; clear HO156; clear HO160; clear HO164; clear BK161; clear HB; have HO152 := n0_; have HO156 := n1_; have HO160 := n2_; have HO164 := n3_; have HO169 := n4_; have BK161 := n5_; have HB := n6_; clear n0_ n1_ n2_ n3_ n4_ n5_ n6_; (try clear hb); (try clear hb2); (try clear hk); (try clear hi); (try clear ho0)) | ((with_reducible refine gate_callee (f := 25) rfl ?_); refine goesL_ (some 46) rfl rfl Try.func25 (by kernel_rfl) rfl #[.slice Ao39 t150.length co39, .int .i64 2, .int .i64 3, .int .i64 0] rfl z2_ ?_; (with_reducible refine (tree_Move.calls _ _ t150 2 3 0 t170 t171 _ ?side1 ?side2 A6.out).mono ?_); (case side1 => exact z27_); (case side2 => exact z61_); rintro e w46 ⟨v172, rfl, ho0, hb⟩; refine ⟨_, rfl, ?_⟩; have n0_ := Aside0.mk (Kd.R_elder' z15_ (Kd.R_base ho0) hb); have n1_ := Aside0.mk (Kd.R_below z20_ hb); have n2_ := Aside0.mk (Kd.R_below z23_ hb); have n3_ := Aside0.mk (Kd.R_elder' z18_ (Kd.R_base ho0) hb); have n4_ := Aside0.mk (Kd.R_elder' z21_ (Kd.R_base ho0) hb); have n5_ := Aside0.mk (Kd.R_lower (Kd.R_newB (Kd.R_new' (Kd.R_new' (Kd.R_new' ho0 (Kd.R_lt z15_)) (Kd.R_lt z18_)) (Kd.R_lt z21_)) (g := gb161) (o := .cells #[.int .i64 5, .int .i64 1, .int .i64 10, .int .i64 0, .string (⟨#[]⟩ : ByteArray)] 24 (0, 0)) z14_) (below_size z8_)); have n6_ := Aside0.mk (blk_below (g := gb161) (o := .cells #[.int .i64 5, .int .i64 1, .int .i64 10, .int .i64 0, .string (⟨#[]⟩ : ByteArray)] 24 (0, 0)) z14_ hb); have n7_ := Aside0.mk (below_step z8_ hb); clear HO152; clear HO156; clear HO160; clear HO164; clear HO169; clear BK161; clear HB; have HO152 := n0_; have HO156 := n1_; have HO160 := n2_; have HO164 := n3_; have HO169 := n4_; have HO173 := n5_; have BK161 := n6_; have HB := n7_; clear n0_ n1_ n2_ n3_ n4_ n5_ n6_ n7_; (try clear hb); (try clear hb2); (try clear hk); (try clear hi); (try clear ho0)) | ((with_reducible refine gate_callee (f := 25) rfl ?_); refine goesL_ (some 51) rfl rfl Try.func25 (by kernel_rfl) rfl #[.slice Ao39 t150.length co39, .int .i64 4, .int .i64 3, .int .i64 0] rfl z2_ ?_; (with_reducible refine (tree_Move.calls _ _ t150 4 3 0 t174 t175 _ ?side1 ?side2 A7.out).mono ?_); (case side1 => exact z27_); (case side2 => exact z61_); rintro e w47 ⟨v176, rfl, ho0, hb⟩; refine ⟨_, rfl, ?_⟩; have n0_ := Aside0.mk (Kd.R_elder' z15_ (Kd.R_base ho0) hb); have n1_ := Aside0.mk (Kd.R_below z20_ hb); have n2_ := Aside0.mk (Kd.R_below z23_ hb); have n3_ := Aside0.mk (Kd.R_elder' z18_ (Kd.R_base ho0) hb); have n4_ := Aside0.mk (Kd.R_elder' z21_ (Kd.R_base ho0) hb); have n5_ := Aside0.mk (Kd.R_elder' z24_ (Kd.R_base ho0) hb); have n6_ := Aside0.mk (Kd.R_lower (Kd.R_newB (Kd.R_new' (Kd.R_new' (Kd.R_new' (Kd.R_new' ho0 (Kd.R_lt z15_)) (Kd.R_lt z18_)) (Kd.R_lt z21_)) (Kd.R_lt z24_)) (g := gb161) (o := .cells #[.int .i64 5, .int .i64 1, .int .i64 10, .int .i64 0, .string (⟨#[]⟩ : ByteArray)] 24 (0, 0)) z14_) (below_size z8_)); have n7_ := Aside0.mk (blk_below (g := gb161) (o := .cells #[.int .i64 5, .int .i64 1, .int .i64 10, .int .i64 0, .string (⟨#[]⟩ : ByteArray)] 24 (0, 0)) z14_ hb); have n8_ := Aside0.mk (below_step z8_ hb); clear HO152; clear HO156; clear HO160; clear HO164; clear HO169; clear HO173; clear BK161; clear HB; have HO152 := n0_; have HO156 := n1_; have HO160 := n2_; have HO164 := n3_; have HO169 := n4_; have HO173 := n5_; have HO177 := n6_; have BK161 := n7_; have HB := n8_; clear n0_ n1_ n2_ n3_ n4_ n5_ n6_ n7_ n8_; (try clear hb); (try clear hb2); (try clear hk); (try clear hi); (try clear ho0)) | ((with_reducible refine gate_callee (f := 23) rfl ?_); refine goesL_ (some 56) rfl rfl Try.func23 (by kernel_rfl) rfl #[.slice Ao39 t150.length co39, .int .i64 2] rfl z2_ ?_; (with_reducible refine (tree_Remove.calls _ _ t150 2 t178 t179 _ ?side1 ?side2 A8.out).mono ?_); (case side1 => exact z27_); (case side2 => exact z61_); rintro e w48 ⟨v180, rfl, ho0, hb⟩; refine ⟨_, rfl, ?_⟩; have n0_ := Aside0.mk (Kd.R_elder' z15_ (Kd.R_base ho0) hb); have n1_ := Aside0.mk (Kd.R_below z20_ hb); have n2_ := Aside0.mk (Kd.R_below z23_ hb); have n3_ := Aside0.mk (Kd.R_elder' z18_ (Kd.R_base ho0) hb); have n4_ := Aside0.mk (Kd.R_elder' z21_ (Kd.R_base ho0) hb); have n5_ := Aside0.mk (Kd.R_elder' z24_ (Kd.R_base ho0) hb); have n6_ := Aside0.mk (Kd.R_elder' z28_ (Kd.R_base ho0) hb); have n7_ := Aside0.mk (Kd.R_lower (Kd.R_newB (Kd.R_new' (Kd.R_new' (Kd.R_new' (Kd.R_new' (Kd.R_new' ho0 (Kd.R_lt z15_)) (Kd.R_lt z18_)) (Kd.R_lt z21_)) (Kd.R_lt z24_)) (Kd.R_lt z28_)) (g := gb161) (o := .cells #[.int .i64 5, .int .i64 1, .int .i64 10, .int .i64 0, .string (⟨#[]⟩ : ByteArray)] 24 (0, 0)) z14_) (below_size z8_)); have n8_ := Aside0.mk (blk_below (g := gb161) (o := .cells #[.int .i64 5, .int .i64 1, .int .i64 10, .int .i64 0, .string (⟨#[]⟩ : ByteArray)] 24 (0, 0)) z14_ hb); have n9_ := Aside0.mk (below_step z8_ hb); clear HO152; clear HO156; clear HO160; clear HO164; clear HO169; clear HO173; clear HO177; clear BK161; clear HB; have HO152 := n0_; have HO156 := n1_; have HO160 := n2_; have HO164 := n3_; have HO169 := n4_; have HO173 := n5_; have HO177 := n6_; have HO181 := n7_; have BK161 := n8_; have HB := n9_; clear n0_ n1_ n2_ n3_ n4_ n5_ n6_ n7_ n8_ n9_; (try clear hb); (try clear hb2); (try clear hk); (try clear hi); (try clear ho0)) | ((with_reducible refine gate_callee (f := 11) rfl ?_); refine goesL_ (some 61) rfl rfl Try.func11 (by kernel_rfl) rfl #[.slice Ao39 t150.length co39, .int .i64 4] rfl z2_ ?_; (with_reducible refine (tree_Find.calls _ _ t150 4 t182 true t184 _ ?side1 ?side2 A9.out).mono ?_); (case side1 => exact z27_); (case side2 => exact z61_); rintro e w49 ⟨rfl, hb⟩; refine ⟨_, rfl, ?_⟩; have n0_ := Aside0.mk (Kd.R_below z15_ hb); have n1_ := Aside0.mk (Kd.R_below z20_ hb); have n2_ := Aside0.mk (Kd.R_below z23_ hb); have n3_ := Aside0.mk (Kd.R_below z18_ hb); have n4_ := Aside0.mk (Kd.R_below z21_ hb); have n5_ := Aside0.mk (Kd.R_below z24_ hb); have n6_ := Aside0.mk (Kd.R_below z28_ hb); have n7_ := Aside0.mk (Kd.R_below z31_ hb); have n8_ := Aside0.mk (blk_below (g := gb161) (o := .cells #[.int .i64 5, .int .i64 1, .int .i64 10, .int .i64 0, .string (⟨#[]⟩ : ByteArray)] 24 (0, 0)) z14_ hb); have n9_ := Aside0.mk (below_step z8_ hb); clear HO152; clear HO156; clear HO160; clear HO164; clear HO169; clear HO173; clear HO177; clear HO181; clear BK161; clear HB; have HO152 := n0_; have HO156 := n1_; have HO160 := n2_; have HO164 := n3_; have HO169 := n4_; have HO173 := n5_; have HO177 := n6_; have HO181 := n7_; have BK161 := n8_; have HB := n9_; clear n0_ n1_ n2_ n3_ n4_ n5_ n6_ n7_ n8_ n9_; (try clear hb); (try clear hb2); (try clear hk); (try clear hi)))
         have n0_ := Aside0.mk (Kd.R_drew HO152.out)
         have n1_ := Aside0.mk (Kd.R_drew HO156.out)
         have n2_ := Aside0.mk (Kd.R_drew HO160.out)
         have n3_ := Aside0.mk (Kd.R_drew HO164.out)
         have n4_ := Aside0.mk (Kd.R_drew HO169.out)
         have n5_ := Aside0.mk (Kd.R_drew HO173.out)
         have n6_ := Aside0.mk (Kd.R_drew HO177.out)
         have n7_ := Aside0.mk (Kd.R_drew HO181.out)
         have n8_ := Aside0.mk (blk_drew BK161.out)
         have n9_ := Aside0.mk (below_drew1 HB.out)
         clear HO152
         clear HO156
         clear HO160
         clear HO164
         clear HO169
         clear HO173
         clear HO177
         clear HO181
         clear BK161
         clear HB
         have HO152 := n0_
         have HO156 := n1_
         have HO160 := n2_
         have HO164 := n3_
         have HO169 := n4_
         have HO173 := n5_
         have HO177 := n6_
         have HO181 := n7_
         have BK161 := n8_
         have HB := n9_
         clear n0_ n1_ n2_ n3_ n4_ n5_ n6_ n7_ n8_ n9_
         have p193 : 0 ≤ (0 : Int) := (by omega)
         have q193 : 0 < (t150.length : Int) := of_decide_eq_true z4_
         obtain ⟨ad193, e193, hx193_0, hx193_1, hx193_2, hx193_3, hx193_4⟩ := at_T24 (Kd.R_reads' HO152.out).2.2 0 p193 q193
         cases e193
         have qi193 : (0 < t150.length) = True := eq_true (by omega)
         (try simp only [show ((0 : Int)).toNat = 0 from rfl, show 0 * 5 = 0 from rfl, Addr.add_zero'] at hx193_0 hx193_1 hx193_2 hx193_3 hx193_4)
         replace p193 := eq_true p193
         replace q193 := eq_true q193
         have p194 : 0 ≤ (1 : Int) := (by omega)
         have q194 : 1 < (t150.length : Int) := of_decide_eq_true z4_
         obtain ⟨ad194, e194, hx194_0, hx194_1, hx194_2, hx194_3, hx194_4⟩ := at_T24 (Kd.R_reads' HO152.out).2.2 1 p194 q194
         obtain rfl : ad193 = ad194 := (by injection e194)
         (try simp only [show (1 : Int).toNat = 1 from rfl, Nat.reduceMul, Nat.reduceEqDiff, Go.Addr.add, ↓reduceIte] at hx194_0)
         (try simp only [show (1 : Int).toNat = 1 from rfl, Nat.reduceMul, Nat.reduceEqDiff, Go.Addr.add, ↓reduceIte] at hx194_1)
         (try simp only [show (1 : Int).toNat = 1 from rfl, Nat.reduceMul, Nat.reduceEqDiff, Go.Addr.add, ↓reduceIte] at hx194_2)
         (try simp only [show (1 : Int).toNat = 1 from rfl, Nat.reduceMul, Nat.reduceEqDiff, Go.Addr.add, ↓reduceIte] at hx194_3)
         (try simp only [show (1 : Int).toNat = 1 from rfl, Nat.reduceMul, Nat.reduceEqDiff, Go.Addr.add, ↓reduceIte] at hx194_4)
         have qi194 : (1 < t150.length) = True := eq_true (by omega)
         (try simp only [show ((1 : Int)).toNat = 1 from rfl, show 1 * 5 = 5 from rfl] at hx194_0 hx194_1 hx194_2 hx194_3 hx194_4)
         replace p194 := eq_true p194
         replace q194 := eq_true q194
         have p195 : 0 ≤ (2 : Int) := (by omega)
         have q195 : 2 < (t150.length : Int) := of_decide_eq_true z4_
         obtain ⟨ad195, e195, hx195_0, hx195_1, hx195_2, hx195_3, hx195_4⟩ := at_T24 (Kd.R_reads' HO152.out).2.2 2 p195 q195
         obtain rfl : ad193 = ad195 := (by injection e195)
         (try simp only [show (2 : Int).toNat = 2 from rfl, Nat.reduceMul, Nat.reduceEqDiff, Go.Addr.add, ↓reduceIte] at hx195_0)
         (try simp only [show (2 : Int).toNat = 2 from rfl, Nat.reduceMul, Nat.reduceEqDiff, Go.Addr.add, ↓reduceIte] at hx195_1)
         (try simp only [show (2 : Int).toNat = 2 from rfl, Nat.reduceMul, Nat.reduceEqDiff, Go.Addr.add, ↓reduceIte] at hx195_2)
         (try simp only [show (2 : Int).toNat = 2 from rfl, Nat.reduceMul, Nat.reduceEqDiff, Go.Addr.add, ↓reduceIte] at hx195_3)
         (try simp only [show (2 : Int).toNat = 2 from rfl, Nat.reduceMul, Nat.reduceEqDiff, Go.Addr.add, ↓reduceIte] at hx195_4)
         have qi195 : (2 < t150.length) = True := eq_true (by omega)
         (try simp only [show ((2 : Int)).toNat = 2 from rfl, show 2 * 5 = 10 from rfl] at hx195_0 hx195_1 hx195_2 hx195_3 hx195_4)
         replace p195 := eq_true p195
         replace q195 := eq_true q195
         have p196 : 0 ≤ (3 : Int) := (by omega)
         have q196 : 3 < (t150.length : Int) := of_decide_eq_true z4_
         obtain ⟨ad196, e196, hx196_0, hx196_1, hx196_2, hx196_3, hx196_4⟩ := at_T24 (Kd.R_reads' HO152.out).2.2 3 p196 q196
         obtain rfl : ad193 = ad196 := (by injection e196)
         (try simp only [show (3 : Int).toNat = 3 from rfl, Nat.reduceMul, Nat.reduceEqDiff, Go.Addr.add, ↓reduceIte] at hx196_0)
         (try simp only [show (3 : Int).toNat = 3 from rfl, Nat.reduceMul, Nat.reduceEqDiff, Go.Addr.add, ↓reduceIte] at hx196_1)
         (try simp only [show (3 : Int).toNat = 3 from rfl, Nat.reduceMul, Nat.reduceEqDiff, Go.Addr.add, ↓reduceIte] at hx196_2)
         (try simp only [show (3 : Int).toNat = 3 from rfl, Nat.reduceMul, Nat.reduceEqDiff, Go.Addr.add, ↓reduceIte] at hx196_3)
         (try simp only [show (3 : Int).toNat = 3 from rfl, Nat.reduceMul, Nat.reduceEqDiff, Go.Addr.add, ↓reduceIte] at hx196_4)
         have qi196 : (3 < t150.length) = True := eq_true (by omega)
         (try simp only [show ((3 : Int)).toNat = 3 from rfl, show 3 * 5 = 15 from rfl] at hx196_0 hx196_1 hx196_2 hx196_3 hx196_4)
         replace p196 := eq_true p196
         replace q196 := eq_true q196
         have p201 : 0 ≤ (0 : Int) := (by omega)
         have q201 : 0 < (t150.length : Int) := of_decide_eq_true z4_
         obtain ⟨ad201, e201, hx201_0, hx201_1, hx201_2, hx201_3, hx201_4⟩ := at_T24 (Kd.R_reads' HO152.out).2.2 0 p201 q201
         obtain rfl : ad193 = ad201 := (by injection e201)
         have qi201 : (0 < t150.length) = True := eq_true (by omega)
         (try simp only [show ((0 : Int)).toNat = 0 from rfl, show 0 * 5 = 0 from rfl, Addr.add_zero'] at hx201_0 hx201_1 hx201_2 hx201_3 hx201_4)
         replace p201 := eq_true p201
         replace q201 := eq_true q201
         have p202 : 0 ≤ (3 : Int) := (by omega)
         have q202 : 3 < (t150.length : Int) := of_decide_eq_true z4_
         obtain ⟨ad202, e202, hx202_0, hx202_1, hx202_2, hx202_3, hx202_4⟩ := at_T24 (Kd.R_reads' HO152.out).2.2 3 p202 q202
         obtain rfl : ad193 = ad202 := (by injection e202)
         (try simp only [show (3 : Int).toNat = 3 from rfl, Nat.reduceMul, Nat.reduceEqDiff, Go.Addr.add, ↓reduceIte] at hx202_0)
         (try simp only [show (3 : Int).toNat = 3 from rfl, Nat.reduceMul, Nat.reduceEqDiff, Go.Addr.add, ↓reduceIte] at hx202_1)
         (try simp only [show (3 : Int).toNat = 3 from rfl, Nat.reduceMul, Nat.reduceEqDiff, Go.Addr.add, ↓reduceIte] at hx202_2)
         (try simp only [show (3 : Int).toNat = 3 from rfl, Nat.reduceMul, Nat.reduceEqDiff, Go.Addr.add, ↓reduceIte] at hx202_3)
         (try simp only [show (3 : Int).toNat = 3 from rfl, Nat.reduceMul, Nat.reduceEqDiff, Go.Addr.add, ↓reduceIte] at hx202_4)
         have qi202 : (3 < t150.length) = True := eq_true (by omega)
         (try simp only [show ((3 : Int)).toNat = 3 from rfl, show 3 * 5 = 15 from rfl] at hx202_0 hx202_1 hx202_2 hx202_3 hx202_4)
         replace p202 := eq_true p202
         replace q202 := eq_true q202
         have p203 : 0 ≤ (1 : Int) := (by omega)
         have q203 : 1 < (t150.length : Int) := of_decide_eq_true z4_
         obtain ⟨ad203, e203, hx203_0, hx203_1, hx203_2, hx203_3, hx203_4⟩ := at_T24 (Kd.R_reads' HO152.out).2.2 1 p203 q203
         obtain rfl : ad193 = ad203 := (by injection e203)
         (try simp only [show (1 : Int).toNat = 1 from rfl, Nat.reduceMul, Nat.reduceEqDiff, Go.Addr.add, ↓reduceIte] at hx203_0)
         (try simp only [show (1 : Int).toNat = 1 from rfl, Nat.reduceMul, Nat.reduceEqDiff, Go.Addr.add, ↓reduceIte] at hx203_1)
         (try simp only [show (1 : Int).toNat = 1 from rfl, Nat.reduceMul, Nat.reduceEqDiff, Go.Addr.add, ↓reduceIte] at hx203_2)
         (try simp only [show (1 : Int).toNat = 1 from rfl, Nat.reduceMul, Nat.reduceEqDiff, Go.Addr.add, ↓reduceIte] at hx203_3)
         (try simp only [show (1 : Int).toNat = 1 from rfl, Nat.reduceMul, Nat.reduceEqDiff, Go.Addr.add, ↓reduceIte] at hx203_4)
         have qi203 : (1 < t150.length) = True := eq_true (by omega)
         (try simp only [show ((1 : Int)).toNat = 1 from rfl, show 1 * 5 = 5 from rfl] at hx203_0 hx203_1 hx203_2 hx203_3 hx203_4)
         replace p203 := eq_true p203
         replace q203 := eq_true q203
         have p204 : 0 ≤ (2 : Int) := (by omega)
         have q204 : 2 < (t150.length : Int) := of_decide_eq_true z4_
         obtain ⟨ad204, e204, hx204_0, hx204_1, hx204_2, hx204_3, hx204_4⟩ := at_T24 (Kd.R_reads' HO152.out).2.2 2 p204 q204
         obtain rfl : ad193 = ad204 := (by injection e204)
         (try simp only [show (2 : Int).toNat = 2 from rfl, Nat.reduceMul, Nat.reduceEqDiff, Go.Addr.add, ↓reduceIte] at hx204_0)
         (try simp only [show (2 : Int).toNat = 2 from rfl, Nat.reduceMul, Nat.reduceEqDiff, Go.Addr.add, ↓reduceIte] at hx204_1)
         (try simp only [show (2 : Int).toNat = 2 from rfl, Nat.reduceMul, Nat.reduceEqDiff, Go.Addr.add, ↓reduceIte] at hx204_2)
         (try simp only [show (2 : Int).toNat = 2 from rfl, Nat.reduceMul, Nat.reduceEqDiff, Go.Addr.add, ↓reduceIte] at hx204_3)
         (try simp only [show (2 : Int).toNat = 2 from rfl, Nat.reduceMul, Nat.reduceEqDiff, Go.Addr.add, ↓reduceIte] at hx204_4)
         have qi204 : (2 < t150.length) = True := eq_true (by omega)
         (try simp only [show ((2 : Int)).toNat = 2 from rfl, show 2 * 5 = 10 from rfl] at hx204_0 hx204_1 hx204_2 hx204_3 hx204_4)
         replace p204 := eq_true p204
         replace q204 := eq_true q204
         refine start_ (n := 47) (S := fun w' => w'.cell? ⟨gb161, 0, none⟩ = some (.int .i64 5) ∧ w'.cell? ⟨gb161, 1, none⟩ = some (.int .i64 1) ∧ w'.cell? ⟨gb161, 2, none⟩ = some (.int .i64 10) ∧ w'.cell? ⟨gb161, 3, none⟩ = some (.int .i64 0) ∧ w'.cell? ⟨gb161, 4, none⟩ = some (.string (⟨#[]⟩ : ByteArray)) ∧ w'.cell? ad193 = some (.int .i64 ((rd_T24 t150 0).f0)) ∧ w'.cell? ⟨ad193.block, ad193.off + 1, none⟩ = some (.int .i64 ((rd_T24 t150 0).f1)) ∧ w'.cell? ⟨ad193.block, ad193.off + 2, none⟩ = some (.int .i64 ((rd_T24 t150 0).f2)) ∧ w'.cell? ⟨ad193.block, ad193.off + 3, none⟩ = some (.int .i64 ((rd_T24 t150 0).f3)) ∧ w'.cell? ⟨ad193.block, ad193.off + 4, none⟩ = some (.string ((rd_T24 t150 0).f4)) ∧ w'.cell? ⟨ad193.block, ad193.off + 5, none⟩ = some (.int .i64 ((rd_T24 t150 1).f0)) ∧ w'.cell? ⟨ad193.block, ad193.off + 5 + 1, none⟩ = some (.int .i64 ((rd_T24 t150 1).f1)) ∧ w'.cell? ⟨ad193.block, ad193.off + 5 + 2, none⟩ = some (.int .i64 ((rd_T24 t150 1).f2)) ∧ w'.cell? ⟨ad193.block, ad193.off + 5 + 3, none⟩ = some (.int .i64 ((rd_T24 t150 1).f3)) ∧ w'.cell? ⟨ad193.block, ad193.off + 5 + 4, none⟩ = some (.string ((rd_T24 t150 1).f4)) ∧ w'.cell? ⟨ad193.block, ad193.off + 10, none⟩ = some (.int .i64 ((rd_T24 t150 2).f0)) ∧ w'.cell? ⟨ad193.block, ad193.off + 10 + 1, none⟩ = some (.int .i64 ((rd_T24 t150 2).f1)) ∧ w'.cell? ⟨ad193.block, ad193.off + 10 + 2, none⟩ = some (.int .i64 ((rd_T24 t150 2).f2)) ∧ w'.cell? ⟨ad193.block, ad193.off + 10 + 3, none⟩ = some (.int .i64 ((rd_T24 t150 2).f3)) ∧ w'.cell? ⟨ad193.block, ad193.off + 10 + 4, none⟩ = some (.string ((rd_T24 t150 2).f4)) ∧ w'.cell? ⟨ad193.block, ad193.off + 15, none⟩ = some (.int .i64 ((rd_T24 t150 3).f0)) ∧ w'.cell? ⟨ad193.block, ad193.off + 15 + 1, none⟩ = some (.int .i64 ((rd_T24 t150 3).f1)) ∧ w'.cell? ⟨ad193.block, ad193.off + 15 + 2, none⟩ = some (.int .i64 ((rd_T24 t150 3).f2)) ∧ w'.cell? ⟨ad193.block, ad193.off + 15 + 3, none⟩ = some (.int .i64 ((rd_T24 t150 3).f3)) ∧ w'.cell? ⟨ad193.block, ad193.off + 15 + 4, none⟩ = some (.string ((rd_T24 t150 3).f4)) ∧ w'.cell? ad193 = some (.int .i64 ((rd_T24 t150 0).f0)) ∧ w'.cell? ⟨ad193.block, ad193.off + 1, none⟩ = some (.int .i64 ((rd_T24 t150 0).f1)) ∧ w'.cell? ⟨ad193.block, ad193.off + 2, none⟩ = some (.int .i64 ((rd_T24 t150 0).f2)) ∧ w'.cell? ⟨ad193.block, ad193.off + 3, none⟩ = some (.int .i64 ((rd_T24 t150 0).f3)) ∧ w'.cell? ⟨ad193.block, ad193.off + 4, none⟩ = some (.string ((rd_T24 t150 0).f4)) ∧ w'.cell? ⟨ad193.block, ad193.off + 15, none⟩ = some (.int .i64 ((rd_T24 t150 3).f0)) ∧ w'.cell? ⟨ad193.block, ad193.off + 15 + 1, none⟩ = some (.int .i64 ((rd_T24 t150 3).f1)) ∧ w'.cell? ⟨ad193.block, ad193.off + 15 + 2, none⟩ = some (.int .i64 ((rd_T24 t150 3).f2)) ∧ w'.cell? ⟨ad193.block, ad193.off + 15 + 3, none⟩ = some (.int .i64 ((rd_T24 t150 3).f3)) ∧ w'.cell? ⟨ad193.block, ad193.off + 15 + 4, none⟩ = some (.string ((rd_T24 t150 3).f4)) ∧ w'.cell? ⟨ad193.block, ad193.off + 5, none⟩ = some (.int .i64 ((rd_T24 t150 1).f0)) ∧ w'.cell? ⟨ad193.block, ad193.off + 5 + 1, none⟩ = some (.int .i64 ((rd_T24 t150 1).f1)) ∧ w'.cell? ⟨ad193.block, ad193.off + 5 + 2, none⟩ = some (.int .i64 ((rd_T24 t150 1).f2)) ∧ w'.cell? ⟨ad193.block, ad193.off + 5 + 3, none⟩ = some (.int .i64 ((rd_T24 t150 1).f3)) ∧ w'.cell? ⟨ad193.block, ad193.off + 5 + 4, none⟩ = some (.string ((rd_T24 t150 1).f4)) ∧ w'.cell? ⟨ad193.block, ad193.off + 10, none⟩ = some (.int .i64 ((rd_T24 t150 2).f0)) ∧ w'.cell? ⟨ad193.block, ad193.off + 10 + 1, none⟩ = some (.int .i64 ((rd_T24 t150 2).f1)) ∧ w'.cell? ⟨ad193.block, ad193.off + 10 + 2, none⟩ = some (.int .i64 ((rd_T24 t150 2).f2)) ∧ w'.cell? ⟨ad193.block, ad193.off + 10 + 3, none⟩ = some (.int .i64 ((rd_T24 t150 2).f3)) ∧ w'.cell? ⟨ad193.block, ad193.off + 10 + 4, none⟩ = some (.string ((rd_T24 t150 2).f4))) (ds := []) #[false, false, false, false, false, false, false, false, false, false, false, false, false, false, false, false, false, false, false, false, false, false, false, false, false, false, false, false, false, false, false, false, false, false, false, false, false, false, false, false, false, false, false, false, false, false, false] (by kernel_rfl) rfl rfl ⟨(blk_cell BK161.out 0).trans rfl, (blk_cell BK161.out 1).trans rfl, (blk_cell BK161.out 2).trans rfl, (blk_cell BK161.out 3).trans rfl, (blk_cell BK161.out 4).trans rfl, hx193_0, hx193_1, hx193_2, hx193_3, hx193_4, hx194_0, hx194_1, hx194_2, hx194_3, hx194_4, hx195_0, hx195_1, hx195_2, hx195_3, hx195_4, hx196_0, hx196_1, hx196_2, hx196_3, hx196_4, hx201_0, hx201_1, hx201_2, hx201_3, hx201_4, hx202_0, hx202_1, hx202_2, hx202_3, hx202_4, hx203_0, hx203_1, hx203_2, hx203_3, hx203_4, hx204_0, hx204_1, hx204_2, hx204_3, hx204_4⟩ (fun hHeld => ?_); refine with_tabW formelaw10_head.tab12 formelaw10_head.bits12 (fun HT_ HW_ => ?_)
         generalize w49.drew = w50 at HO152 HO156 HO160 HO164 HO169 HO173 HO177 HO181 BK161 HB hx193_0 hx193_1 hx193_2 hx193_3 hx193_4 hx194_0 hx194_1 hx194_2 hx194_3 hx194_4 hx195_0 hx195_1 hx195_2 hx195_3 hx195_4 hx196_0 hx196_1 hx196_2 hx196_3 hx196_4 hx201_0 hx201_1 hx201_2 hx201_3 hx201_4 hx202_0 hx202_1 hx202_2 hx202_3 hx202_4 hx203_0 hx203_1 hx203_2 hx203_3 hx203_4 hx204_0 hx204_1 hx204_2 hx204_3 hx204_4 hHeld ⊢
         refine pz_ 0 (some 95) ?_
         refine pz_ 1 (some 96) ?_
         refine pz_ 2 (some 97) ?_
         refine oz_ 3 (some 98) (fun K hK => ?_)
         refine Kd.R_lit_step (Kd.int .i64) _ 3 ?hg (N := 98) ?hd (xs := ([2, 4] : List Int)) (inner := [.int .i64 2, .int .i64 4]) (ok := fun _ => True) (okp := fun _ => True) ?hr ?hp (fun _ hk => hk) trivial (Below.refl _ _) (Nat.le_refl _) (by simp) ?_; (case hd => rfl); (case hg => rfl); (case hr => exact z13_); (case hp => exact (Reps.one (show Kd.M (Kd.int .i64) _ _ _ 2 [.int .i64 2] from rfl) (Reps.one (show Kd.M (Kd.int .i64) _ _ _ 4 [.int .i64 4] from rfl) (Reps.none _ _))))
         intro v186 w51 ho52 hb hg_ hnew_
         have HS5_ := hbc_ hb hHeld.2.2.2.2.2.1
         have HS6_ := hbc_ hb hHeld.2.2.2.2.2.2.1
         have HS7_ := hbc_ hb hHeld.2.2.2.2.2.2.2.1
         have HS8_ := hbc_ hb hHeld.2.2.2.2.2.2.2.2.1
         have HS9_ := hbc_ hb hHeld.2.2.2.2.2.2.2.2.2.1
         have HS10_ := hbc_ hb hHeld.2.2.2.2.2.2.2.2.2.2.1
         have HS11_ := hbc_ hb hHeld.2.2.2.2.2.2.2.2.2.2.2.1
         have HS12_ := hbc_ hb hHeld.2.2.2.2.2.2.2.2.2.2.2.2.1
         have HS13_ := hbc_ hb hHeld.2.2.2.2.2.2.2.2.2.2.2.2.2.1
         have HS14_ := hbc_ hb hHeld.2.2.2.2.2.2.2.2.2.2.2.2.2.2.1
         have HS15_ := hbc_ hb hHeld.2.2.2.2.2.2.2.2.2.2.2.2.2.2.2.1
         have HS16_ := hbc_ hb hHeld.2.2.2.2.2.2.2.2.2.2.2.2.2.2.2.2.1
         have HS17_ := hbc_ hb hHeld.2.2.2.2.2.2.2.2.2.2.2.2.2.2.2.2.2.1
         have HS18_ := hbc_ hb hHeld.2.2.2.2.2.2.2.2.2.2.2.2.2.2.2.2.2.2.1
         have HS19_ := hbc_ hb hHeld.2.2.2.2.2.2.2.2.2.2.2.2.2.2.2.2.2.2.2.1
         have HS20_ := hbc_ hb hHeld.2.2.2.2.2.2.2.2.2.2.2.2.2.2.2.2.2.2.2.2.1
         have HS21_ := hbc_ hb hHeld.2.2.2.2.2.2.2.2.2.2.2.2.2.2.2.2.2.2.2.2.2.1
         have HS22_ := hbc_ hb hHeld.2.2.2.2.2.2.2.2.2.2.2.2.2.2.2.2.2.2.2.2.2.2.1
         have HS23_ := hbc_ hb hHeld.2.2.2.2.2.2.2.2.2.2.2.2.2.2.2.2.2.2.2.2.2.2.2.1
         have HS24_ := hbc_ hb hHeld.2.2.2.2.2.2.2.2.2.2.2.2.2.2.2.2.2.2.2.2.2.2.2.2.1
         have HS25_ := hbc_ hb hHeld.2.2.2.2.2.2.2.2.2.2.2.2.2.2.2.2.2.2.2.2.2.2.2.2.2.1
         have HS26_ := hbc_ hb hHeld.2.2.2.2.2.2.2.2.2.2.2.2.2.2.2.2.2.2.2.2.2.2.2.2.2.2.1
         have HS27_ := hbc_ hb hHeld.2.2.2.2.2.2.2.2.2.2.2.2.2.2.2.2.2.2.2.2.2.2.2.2.2.2.2.1
         have HS28_ := hbc_ hb hHeld.2.2.2.2.2.2.2.2.2.2.2.2.2.2.2.2.2.2.2.2.2.2.2.2.2.2.2.2.1
         have HS29_ := hbc_ hb hHeld.2.2.2.2.2.2.2.2.2.2.2.2.2.2.2.2.2.2.2.2.2.2.2.2.2.2.2.2.2.1
         have HS30_ := hbc_ hb hHeld.2.2.2.2.2.2.2.2.2.2.2.2.2.2.2.2.2.2.2.2.2.2.2.2.2.2.2.2.2.2.1
         have HS31_ := hbc_ hb hHeld.2.2.2.2.2.2.2.2.2.2.2.2.2.2.2.2.2.2.2.2.2.2.2.2.2.2.2.2.2.2.2.1
         have HS32_ := hbc_ hb hHeld.2.2.2.2.2.2.2.2.2.2.2.2.2.2.2.2.2.2.2.2.2.2.2.2.2.2.2.2.2.2.2.2.1
         have HS33_ := hbc_ hb hHeld.2.2.2.2.2.2.2.2.2.2.2.2.2.2.2.2.2.2.2.2.2.2.2.2.2.2.2.2.2.2.2.2.2.1
         have HS34_ := hbc_ hb hHeld.2.2.2.2.2.2.2.2.2.2.2.2.2.2.2.2.2.2.2.2.2.2.2.2.2.2.2.2.2.2.2.2.2.2.1
         have HS35_ := hbc_ hb hHeld.2.2.2.2.2.2.2.2.2.2.2.2.2.2.2.2.2.2.2.2.2.2.2.2.2.2.2.2.2.2.2.2.2.2.2.1
         have HS36_ := hbc_ hb hHeld.2.2.2.2.2.2.2.2.2.2.2.2.2.2.2.2.2.2.2.2.2.2.2.2.2.2.2.2.2.2.2.2.2.2.2.2.1
         have HS37_ := hbc_ hb hHeld.2.2.2.2.2.2.2.2.2.2.2.2.2.2.2.2.2.2.2.2.2.2.2.2.2.2.2.2.2.2.2.2.2.2.2.2.2.1
         have HS38_ := hbc_ hb hHeld.2.2.2.2.2.2.2.2.2.2.2.2.2.2.2.2.2.2.2.2.2.2.2.2.2.2.2.2.2.2.2.2.2.2.2.2.2.2.1
         have HS39_ := hbc_ hb hHeld.2.2.2.2.2.2.2.2.2.2.2.2.2.2.2.2.2.2.2.2.2.2.2.2.2.2.2.2.2.2.2.2.2.2.2.2.2.2.2.1
         have HS40_ := hbc_ hb hHeld.2.2.2.2.2.2.2.2.2.2.2.2.2.2.2.2.2.2.2.2.2.2.2.2.2.2.2.2.2.2.2.2.2.2.2.2.2.2.2.2.1
         have HS41_ := hbc_ hb hHeld.2.2.2.2.2.2.2.2.2.2.2.2.2.2.2.2.2.2.2.2.2.2.2.2.2.2.2.2.2.2.2.2.2.2.2.2.2.2.2.2.2.1
         have HS42_ := hbc_ hb hHeld.2.2.2.2.2.2.2.2.2.2.2.2.2.2.2.2.2.2.2.2.2.2.2.2.2.2.2.2.2.2.2.2.2.2.2.2.2.2.2.2.2.2.1
         have HS43_ := hbc_ hb hHeld.2.2.2.2.2.2.2.2.2.2.2.2.2.2.2.2.2.2.2.2.2.2.2.2.2.2.2.2.2.2.2.2.2.2.2.2.2.2.2.2.2.2.2.1
         have HS44_ := hbc_ hb hHeld.2.2.2.2.2.2.2.2.2.2.2.2.2.2.2.2.2.2.2.2.2.2.2.2.2.2.2.2.2.2.2.2.2.2.2.2.2.2.2.2.2.2.2.2
         clear hg_ hnew_
         (first | rw [← Ny185.out] at ho52 | (simp only [Int.reduceToNat] at ho52; rw [← Ny185.out] at ho52))
         have n0_ := Aside0.mk (Kd.R_below z15_ hb)
         have n1_ := Aside0.mk (Kd.R_elder' z20_ (Kd.R_base ho52) hb)
         have n2_ := Aside0.mk (Kd.R_elder' z23_ (Kd.R_base ho52) hb)
         have n3_ := Aside0.mk (Kd.R_below z18_ hb)
         have n4_ := Aside0.mk (Kd.R_below z21_ hb)
         have n5_ := Aside0.mk (Kd.R_below z24_ hb)
         have n6_ := Aside0.mk (Kd.R_below z28_ hb)
         have n7_ := Aside0.mk (Kd.R_below z31_ hb)
         have n8_ := Aside0.mk (Kd.R_lower (Kd.R_new' (Kd.R_new' ho52 (Kd.R_lt z20_)) (Kd.R_lt z23_)) (below_size z8_))
         have n9_ := Aside0.mk (blk_below (g := gb161) (o := .cells #[.int .i64 5, .int .i64 1, .int .i64 10, .int .i64 0, .string (⟨#[]⟩ : ByteArray)] 24 (0, 0)) z14_ hb)
         have n10_ := Aside0.mk (below_step z8_ hb)
         clear HO152
         clear HO156
         clear HO160
         clear HO164
         clear HO169
         clear HO173
         clear HO177
         clear HO181
         clear BK161
         clear HB
         have HO152 := n0_
         have HO156 := n1_
         have HO160 := n2_
         have HO164 := n3_
         have HO169 := n4_
         have HO173 := n5_
         have HO177 := n6_
         have HO181 := n7_
         have HO187 := n8_
         have BK161 := n9_
         have HB := n10_
         clear n0_ n1_ n2_ n3_ n4_ n5_ n6_ n7_ n8_ n9_ n10_
         clear hb ho52
         obtain ⟨Ao53, co53, eo53⟩ := Kd.R_slice HO156.out
         (first | subst eo53 | (injection eo53 with f1_ f2_ f3_; have f4_ := f1_.symm; have f5_ := f3_.symm; clear f1_ f2_ f3_; subst f4_; subst f5_))
         obtain ⟨Ao54, co54, eo54⟩ := Kd.R_slice HO187.out
         (first | subst eo54 | (injection eo54 with f1_ f2_ f3_; have f4_ := f1_.symm; have f5_ := f3_.symm; clear f1_ f2_ f3_; subst f4_; subst f5_))
         refine hK.out _ _ ⟨(blk_cell BK161.out 0).trans rfl, (blk_cell BK161.out 1).trans rfl, (blk_cell BK161.out 2).trans rfl, (blk_cell BK161.out 3).trans rfl, (blk_cell BK161.out 4).trans rfl, HS5_, HS6_, HS7_, HS8_, HS9_, HS10_, HS11_, HS12_, HS13_, HS14_, HS15_, HS16_, HS17_, HS18_, HS19_, HS20_, HS21_, HS22_, HS23_, HS24_, HS25_, HS26_, HS27_, HS28_, HS29_, HS30_, HS31_, HS32_, HS33_, HS34_, HS35_, HS36_, HS37_, HS38_, HS39_, HS40_, HS41_, HS42_, HS43_, HS44_⟩ (fun hHeld => ?_)
         clear hK K
         refine norm_ (a' := ?_) ?_ ?_
         rotate_left
         ·show Act.put _ (some 98) _ = _
          simp only [Act.put, List.setIfInBounds_toArray, List.set_cons_zero, List.set_cons_succ, i64_w, i32_w]
          rfl
         refine oz_ 4 (some 99) (fun K hK => ?_)
         refine goes_ Try.func17 (by kernel_rfl) rfl #[.slice Ao53 t153.length co53, .slice Ao54 y185.length co54] (by rfl) rfl rfl z2_ ?_
         with_reducible refine (formeref10_SameInts.calls k _ _ t153 _ _ y185 true _ ?side1 ?side2 ?side3 ?side4 A18.out).mono ?_
         (case side1 => repeat (first | exact (Kd.R_reads' HO156.out).2.2 | (with_reducible refine Kd.C_alloc ?_ _) | (with_reducible refine Kd.C_drewN ?_ _) | (with_reducible refine Kd.C_drew ?_)))
         (case side2 => exact (Kd.R_reads' HO156.out).2.1)
         (case side3 => repeat (first | exact (Kd.R_reads' HO187.out).2.2 | (with_reducible refine Kd.C_alloc ?_ _) | (with_reducible refine Kd.C_drewN ?_ _) | (with_reducible refine Kd.C_drew ?_)))
         (case side4 => exact (Kd.R_reads' HO187.out).2.1)
         rintro e w' ⟨rfl, ⟨nd, rfl⟩⟩
         refine ⟨_, rfl, ?_⟩
         refine hK.out _ _ ⟨(blk_cell BK161.out 0).trans rfl, (blk_cell BK161.out 1).trans rfl, (blk_cell BK161.out 2).trans rfl, (blk_cell BK161.out 3).trans rfl, (blk_cell BK161.out 4).trans rfl, hHeld.2.2.2.2.2.1, hHeld.2.2.2.2.2.2.1, hHeld.2.2.2.2.2.2.2.1, hHeld.2.2.2.2.2.2.2.2.1, hHeld.2.2.2.2.2.2.2.2.2.1, hHeld.2.2.2.2.2.2.2.2.2.2.1, hHeld.2.2.2.2.2.2.2.2.2.2.2.1, hHeld.2.2.2.2.2.2.2.2.2.2.2.2.1, hHeld.2.2.2.2.2.2.2.2.2.2.2.2.2.1, hHeld.2.2.2.2.2.2.2.2.2.2.2.2.2.2.1, hHeld.2.2.2.2.2.2.2.2.2.2.2.2.2.2.2.1, hHeld.2.2.2.2.2.2.2.2.2.2.2.2.2.2.2.2.1, hHeld.2.2.2.2.2.2.2.2.2.2.2.2.2.2.2.2.2.1, hHeld.2.2.2.2.2.2.2.2.2.2.2.2.2.2.2.2.2.2.1, hHeld.2.2.2.2.2.2.2.2.2.2.2.2.2.2.2.2.2.2.2.1, hHeld.2.2.2.2.2.2.2.2.2.2.2.2.2.2.2.2.2.2.2.2.1, hHeld.2.2.2.2.2.2.2.2.2.2.2.2.2.2.2.2.2.2.2.2.2.1, hHeld.2.2.2.2.2.2.2.2.2.2.2.2.2.2.2.2.2.2.2.2.2.2.1, hHeld.2.2.2.2.2.2.2.2.2.2.2.2.2.2.2.2.2.2.2.2.2.2.2.1, hHeld.2.2.2.2.2.2.2.2.2.2.2.2.2.2.2.2.2.2.2.2.2.2.2.2.1, hHeld.2.2.2.2.2.2.2.2.2.2.2.2.2.2.2.2.2.2.2.2.2.2.2.2.2.1, hHeld.2.2.2.2.2.2.2.2.2.2.2.2.2.2.2.2.2.2.2.2.2.2.2.2.2.2.1, hHeld.2.2.2.2.2.2.2.2.2.2.2.2.2.2.2.2.2.2.2.2.2.2.2.2.2.2.2.1, hHeld.2.2.2.2.2.2.2.2.2.2.2.2.2.2.2.2.2.2.2.2.2.2.2.2.2.2.2.2.1, hHeld.2.2.2.2.2.2.2.2.2.2.2.2.2.2.2.2.2.2.2.2.2.2.2.2.2.2.2.2.2.1, hHeld.2.2.2.2.2.2.2.2.2.2.2.2.2.2.2.2.2.2.2.2.2.2.2.2.2.2.2.2.2.2.1, hHeld.2.2.2.2.2.2.2.2.2.2.2.2.2.2.2.2.2.2.2.2.2.2.2.2.2.2.2.2.2.2.2.1, hHeld.2.2.2.2.2.2.2.2.2.2.2.2.2.2.2.2.2.2.2.2.2.2.2.2.2.2.2.2.2.2.2.2.1, hHeld.2.2.2.2.2.2.2.2.2.2.2.2.2.2.2.2.2.2.2.2.2.2.2.2.2.2.2.2.2.2.2.2.2.1, hHeld.2.2.2.2.2.2.2.2.2.2.2.2.2.2.2.2.2.2.2.2.2.2.2.2.2.2.2.2.2.2.2.2.2.2.1, hHeld.2.2.2.2.2.2.2.2.2.2.2.2.2.2.2.2.2.2.2.2.2.2.2.2.2.2.2.2.2.2.2.2.2.2.2.1, hHeld.2.2.2.2.2.2.2.2.2.2.2.2.2.2.2.2.2.2.2.2.2.2.2.2.2.2.2.2.2.2.2.2.2.2.2.2.1, hHeld.2.2.2.2.2.2.2.2.2.2.2.2.2.2.2.2.2.2.2.2.2.2.2.2.2.2.2.2.2.2.2.2.2.2.2.2.2.1, hHeld.2.2.2.2.2.2.2.2.2.2.2.2.2.2.2.2.2.2.2.2.2.2.2.2.2.2.2.2.2.2.2.2.2.2.2.2.2.2.1, hHeld.2.2.2.2.2.2.2.2.2.2.2.2.2.2.2.2.2.2.2.2.2.2.2.2.2.2.2.2.2.2.2.2.2.2.2.2.2.2.2.1, hHeld.2.2.2.2.2.2.2.2.2.2.2.2.2.2.2.2.2.2.2.2.2.2.2.2.2.2.2.2.2.2.2.2.2.2.2.2.2.2.2.2.1, hHeld.2.2.2.2.2.2.2.2.2.2.2.2.2.2.2.2.2.2.2.2.2.2.2.2.2.2.2.2.2.2.2.2.2.2.2.2.2.2.2.2.2.1, hHeld.2.2.2.2.2.2.2.2.2.2.2.2.2.2.2.2.2.2.2.2.2.2.2.2.2.2.2.2.2.2.2.2.2.2.2.2.2.2.2.2.2.2.1, hHeld.2.2.2.2.2.2.2.2.2.2.2.2.2.2.2.2.2.2.2.2.2.2.2.2.2.2.2.2.2.2.2.2.2.2.2.2.2.2.2.2.2.2.2.1, hHeld.2.2.2.2.2.2.2.2.2.2.2.2.2.2.2.2.2.2.2.2.2.2.2.2.2.2.2.2.2.2.2.2.2.2.2.2.2.2.2.2.2.2.2.2⟩ (fun hHeld => ?_)
         clear hK K
         refine norm_ (a' := ?_) ?_ ?_
         rotate_left
         ·show Act.put _ (some 99) _ = _
          simp only [Act.put, List.setIfInBounds_toArray, List.set_cons_zero, List.set_cons_succ, i64_w, i32_w]
          rfl
         refine pz_ 5 (some 100) ?_
         refine pz_ 6 (some 101) ?_
         refine pz_ 7 (some 102) ?_
         refine oz_ 8 (some 103) (fun K hK => ?_)
         refine Kd.R_lit_step (Kd.int .i64) _ 3 ?hg (N := 103) ?hd (xs := ([1, 2, 3] : List Int)) (inner := [.int .i64 1, .int .i64 2, .int .i64 3]) (ok := fun _ => True) (okp := fun _ => True) ?hr ?hp (fun _ hk => hk) trivial (Below.refl _ _) (Nat.le_refl _) (by simp) ?_; (case hd => rfl); (case hg => rfl); (case hr => exact z13_); (case hp => exact (Reps.one (show Kd.M (Kd.int .i64) _ _ _ 1 [.int .i64 1] from rfl) (Reps.one (show Kd.M (Kd.int .i64) _ _ _ 2 [.int .i64 2] from rfl) (Reps.one (show Kd.M (Kd.int .i64) _ _ _ 3 [.int .i64 3] from rfl) (Reps.none _ _)))))
         intro v190 w55 ho56 hb hg_ hnew_
         have HS5_ := hbc_ hb hHeld.2.2.2.2.2.1
         have HS6_ := hbc_ hb hHeld.2.2.2.2.2.2.1
         have HS7_ := hbc_ hb hHeld.2.2.2.2.2.2.2.1
         have HS8_ := hbc_ hb hHeld.2.2.2.2.2.2.2.2.1
         have HS9_ := hbc_ hb hHeld.2.2.2.2.2.2.2.2.2.1
         have HS10_ := hbc_ hb hHeld.2.2.2.2.2.2.2.2.2.2.1
         have HS11_ := hbc_ hb hHeld.2.2.2.2.2.2.2.2.2.2.2.1
         have HS12_ := hbc_ hb hHeld.2.2.2.2.2.2.2.2.2.2.2.2.1
         have HS13_ := hbc_ hb hHeld.2.2.2.2.2.2.2.2.2.2.2.2.2.1
         have HS14_ := hbc_ hb hHeld.2.2.2.2.2.2.2.2.2.2.2.2.2.2.1
         have HS15_ := hbc_ hb hHeld.2.2.2.2.2.2.2.2.2.2.2.2.2.2.2.1
         have HS16_ := hbc_ hb hHeld.2.2.2.2.2.2.2.2.2.2.2.2.2.2.2.2.1
         have HS17_ := hbc_ hb hHeld.2.2.2.2.2.2.2.2.2.2.2.2.2.2.2.2.2.1
         have HS18_ := hbc_ hb hHeld.2.2.2.2.2.2.2.2.2.2.2.2.2.2.2.2.2.2.1
         have HS19_ := hbc_ hb hHeld.2.2.2.2.2.2.2.2.2.2.2.2.2.2.2.2.2.2.2.1
         have HS20_ := hbc_ hb hHeld.2.2.2.2.2.2.2.2.2.2.2.2.2.2.2.2.2.2.2.2.1
         have HS21_ := hbc_ hb hHeld.2.2.2.2.2.2.2.2.2.2.2.2.2.2.2.2.2.2.2.2.2.1
         have HS22_ := hbc_ hb hHeld.2.2.2.2.2.2.2.2.2.2.2.2.2.2.2.2.2.2.2.2.2.2.1
         have HS23_ := hbc_ hb hHeld.2.2.2.2.2.2.2.2.2.2.2.2.2.2.2.2.2.2.2.2.2.2.2.1
         have HS24_ := hbc_ hb hHeld.2.2.2.2.2.2.2.2.2.2.2.2.2.2.2.2.2.2.2.2.2.2.2.2.1
         have HS25_ := hbc_ hb hHeld.2.2.2.2.2.2.2.2.2.2.2.2.2.2.2.2.2.2.2.2.2.2.2.2.2.1
         have HS26_ := hbc_ hb hHeld.2.2.2.2.2.2.2.2.2.2.2.2.2.2.2.2.2.2.2.2.2.2.2.2.2.2.1
         have HS27_ := hbc_ hb hHeld.2.2.2.2.2.2.2.2.2.2.2.2.2.2.2.2.2.2.2.2.2.2.2.2.2.2.2.1
         have HS28_ := hbc_ hb hHeld.2.2.2.2.2.2.2.2.2.2.2.2.2.2.2.2.2.2.2.2.2.2.2.2.2.2.2.2.1
         have HS29_ := hbc_ hb hHeld.2.2.2.2.2.2.2.2.2.2.2.2.2.2.2.2.2.2.2.2.2.2.2.2.2.2.2.2.2.1
         have HS30_ := hbc_ hb hHeld.2.2.2.2.2.2.2.2.2.2.2.2.2.2.2.2.2.2.2.2.2.2.2.2.2.2.2.2.2.2.1
         have HS31_ := hbc_ hb hHeld.2.2.2.2.2.2.2.2.2.2.2.2.2.2.2.2.2.2.2.2.2.2.2.2.2.2.2.2.2.2.2.1
         have HS32_ := hbc_ hb hHeld.2.2.2.2.2.2.2.2.2.2.2.2.2.2.2.2.2.2.2.2.2.2.2.2.2.2.2.2.2.2.2.2.1
         have HS33_ := hbc_ hb hHeld.2.2.2.2.2.2.2.2.2.2.2.2.2.2.2.2.2.2.2.2.2.2.2.2.2.2.2.2.2.2.2.2.2.1
         have HS34_ := hbc_ hb hHeld.2.2.2.2.2.2.2.2.2.2.2.2.2.2.2.2.2.2.2.2.2.2.2.2.2.2.2.2.2.2.2.2.2.2.1
         have HS35_ := hbc_ hb hHeld.2.2.2.2.2.2.2.2.2.2.2.2.2.2.2.2.2.2.2.2.2.2.2.2.2.2.2.2.2.2.2.2.2.2.2.1
         have HS36_ := hbc_ hb hHeld.2.2.2.2.2.2.2.2.2.2.2.2.2.2.2.2.2.2.2.2.2.2.2.2.2.2.2.2.2.2.2.2.2.2.2.2.1
         have HS37_ := hbc_ hb hHeld.2.2.2.2.2.2.2.2.2.2.2.2.2.2.2.2.2.2.2.2.2.2.2.2.2.2.2.2.2.2.2.2.2.2.2.2.2.1
         have HS38_ := hbc_ hb hHeld.2.2.2.2.2.2.2.2.2.2.2.2.2.2.2.2.2.2.2.2.2.2.2.2.2.2.2.2.2.2.2.2.2.2.2.2.2.2.1
         have HS39_ := hbc_ hb hHeld.2.2.2.2.2.2.2.2.2.2.2.2.2.2.2.2.2.2.2.2.2.2.2.2.2.2.2.2.2.2.2.2.2.2.2.2.2.2.2.1
         have HS40_ := hbc_ hb hHeld.2.2.2.2.2.2.2.2.2.2.2.2.2.2.2.2.2.2.2.2.2.2.2.2.2.2.2.2.2.2.2.2.2.2.2.2.2.2.2.2.1
         have HS41_ := hbc_ hb hHeld.2.2.2.2.2.2.2.2.2.2.2.2.2.2.2.2.2.2.2.2.2.2.2.2.2.2.2.2.2.2.2.2.2.2.2.2.2.2.2.2.2.1
         have HS42_ := hbc_ hb hHeld.2.2.2.2.2.2.2.2.2.2.2.2.2.2.2.2.2.2.2.2.2.2.2.2.2.2.2.2.2.2.2.2.2.2.2.2.2.2.2.2.2.2.1
         have HS43_ := hbc_ hb hHeld.2.2.2.2.2.2.2.2.2.2.2.2.2.2.2.2.2.2.2.2.2.2.2.2.2.2.2.2.2.2.2.2.2.2.2.2.2.2.2.2.2.2.2.1
         have HS44_ := hbc_ hb hHeld.2.2.2.2.2.2.2.2.2.2.2.2.2.2.2.2.2.2.2.2.2.2.2.2.2.2.2.2.2.2.2.2.2.2.2.2.2.2.2.2.2.2.2.2
         clear hg_ hnew_
         (first | rw [← Ny189.out] at ho56 | (simp only [Int.reduceToNat] at ho56; rw [← Ny189.out] at ho56))
         have n0_ := Aside0.mk (Kd.R_below z15_ hb)
         have n1_ := Aside0.mk (Kd.R_elder' z20_ (Kd.R_base ho56) hb)
         have n2_ := Aside0.mk (Kd.R_elder' z23_ (Kd.R_base ho56) hb)
         have n3_ := Aside0.mk (Kd.R_below z18_ hb)
         have n4_ := Aside0.mk (Kd.R_below z21_ hb)
         have n5_ := Aside0.mk (Kd.R_below z24_ hb)
         have n6_ := Aside0.mk (Kd.R_below z28_ hb)
         have n7_ := Aside0.mk (Kd.R_below z31_ hb)
         have n8_ := Aside0.mk (Kd.R_elder' z42_ (Kd.R_base ho56) hb)
         have n9_ := Aside0.mk (Kd.R_lower (Kd.R_new' (Kd.R_new' (Kd.R_new' ho56 (Kd.R_lt z20_)) (Kd.R_lt z23_)) (Kd.R_lt z42_)) (below_size z8_))
         have n10_ := Aside0.mk (blk_below (g := gb161) (o := .cells #[.int .i64 5, .int .i64 1, .int .i64 10, .int .i64 0, .string (⟨#[]⟩ : ByteArray)] 24 (0, 0)) z14_ hb)
         have n11_ := Aside0.mk (below_step z8_ hb)
         clear HO152
         clear HO156
         clear HO160
         clear HO164
         clear HO169
         clear HO173
         clear HO177
         clear HO181
         clear HO187
         clear BK161
         clear HB
         have HO152 := n0_
         have HO156 := n1_
         have HO160 := n2_
         have HO164 := n3_
         have HO169 := n4_
         have HO173 := n5_
         have HO177 := n6_
         have HO181 := n7_
         have HO187 := n8_
         have HO191 := n9_
         have BK161 := n10_
         have HB := n11_
         clear n0_ n1_ n2_ n3_ n4_ n5_ n6_ n7_ n8_ n9_ n10_ n11_
         clear hb ho56
         obtain ⟨Ao57, co57, eo57⟩ := Kd.R_slice HO160.out
         (first | subst eo57 | (injection eo57 with f1_ f2_ f3_; have f4_ := f1_.symm; have f5_ := f3_.symm; clear f1_ f2_ f3_; subst f4_; subst f5_))
         obtain ⟨Ao58, co58, eo58⟩ := Kd.R_slice HO191.out
         (first | subst eo58 | (injection eo58 with f1_ f2_ f3_; have f4_ := f1_.symm; have f5_ := f3_.symm; clear f1_ f2_ f3_; subst f4_; subst f5_))
         refine hK.out _ _ ⟨(blk_cell BK161.out 0).trans rfl, (blk_cell BK161.out 1).trans rfl, (blk_cell BK161.out 2).trans rfl, (blk_cell BK161.out 3).trans rfl, (blk_cell BK161.out 4).trans rfl, HS5_, HS6_, HS7_, HS8_, HS9_, HS10_, HS11_, HS12_, HS13_, HS14_, HS15_, HS16_, HS17_, HS18_, HS19_, HS20_, HS21_, HS22_, HS23_, HS24_, HS25_, HS26_, HS27_, HS28_, HS29_, HS30_, HS31_, HS32_, HS33_, HS34_, HS35_, HS36_, HS37_, HS38_, HS39_, HS40_, HS41_, HS42_, HS43_, HS44_⟩ (fun hHeld => ?_)
         clear hK K
         refine norm_ (a' := ?_) ?_ ?_
         rotate_left
         ·show Act.put _ (some 103) _ = _
          simp only [Act.put, List.setIfInBounds_toArray, List.set_cons_zero, List.set_cons_succ, i64_w, i32_w]
          rfl
         refine oz_ 9 (some 104) (fun K hK => ?_)
         refine goes_ Try.func17 (by kernel_rfl) rfl #[.slice Ao57 t157.length co57, .slice Ao58 y189.length co58] (by rfl) rfl rfl z2_ ?_
         with_reducible refine (formeref10_SameInts.calls k _ _ t157 _ _ y189 true _ ?side1 ?side2 ?side3 ?side4 A20.out).mono ?_
         (case side1 => repeat (first | exact (Kd.R_reads' HO160.out).2.2 | (with_reducible refine Kd.C_alloc ?_ _) | (with_reducible refine Kd.C_drewN ?_ _) | (with_reducible refine Kd.C_drew ?_)))
         (case side2 => exact (Kd.R_reads' HO160.out).2.1)
         (case side3 => repeat (first | exact (Kd.R_reads' HO191.out).2.2 | (with_reducible refine Kd.C_alloc ?_ _) | (with_reducible refine Kd.C_drewN ?_ _) | (with_reducible refine Kd.C_drew ?_)))
         (case side4 => exact (Kd.R_reads' HO191.out).2.1)
         rintro e w' ⟨rfl, ⟨nd, rfl⟩⟩
         refine ⟨_, rfl, ?_⟩
         refine hK.out _ _ ⟨(blk_cell BK161.out 0).trans rfl, (blk_cell BK161.out 1).trans rfl, (blk_cell BK161.out 2).trans rfl, (blk_cell BK161.out 3).trans rfl, (blk_cell BK161.out 4).trans rfl, hHeld.2.2.2.2.2.1, hHeld.2.2.2.2.2.2.1, hHeld.2.2.2.2.2.2.2.1, hHeld.2.2.2.2.2.2.2.2.1, hHeld.2.2.2.2.2.2.2.2.2.1, hHeld.2.2.2.2.2.2.2.2.2.2.1, hHeld.2.2.2.2.2.2.2.2.2.2.2.1, hHeld.2.2.2.2.2.2.2.2.2.2.2.2.1, hHeld.2.2.2.2.2.2.2.2.2.2.2.2.2.1, hHeld.2.2.2.2.2.2.2.2.2.2.2.2.2.2.1, hHeld.2.2.2.2.2.2.2.2.2.2.2.2.2.2.2.1, hHeld.2.2.2.2.2.2.2.2.2.2.2.2.2.2.2.2.1, hHeld.2.2.2.2.2.2.2.2.2.2.2.2.2.2.2.2.2.1, hHeld.2.2.2.2.2.2.2.2.2.2.2.2.2.2.2.2.2.2.1, hHeld.2.2.2.2.2.2.2.2.2.2.2.2.2.2.2.2.2.2.2.1, hHeld.2.2.2.2.2.2.2.2.2.2.2.2.2.2.2.2.2.2.2.2.1, hHeld.2.2.2.2.2.2.2.2.2.2.2.2.2.2.2.2.2.2.2.2.2.1, hHeld.2.2.2.2.2.2.2.2.2.2.2.2.2.2.2.2.2.2.2.2.2.2.1, hHeld.2.2.2.2.2.2.2.2.2.2.2.2.2.2.2.2.2.2.2.2.2.2.2.1, hHeld.2.2.2.2.2.2.2.2.2.2.2.2.2.2.2.2.2.2.2.2.2.2.2.2.1, hHeld.2.2.2.2.2.2.2.2.2.2.2.2.2.2.2.2.2.2.2.2.2.2.2.2.2.1, hHeld.2.2.2.2.2.2.2.2.2.2.2.2.2.2.2.2.2.2.2.2.2.2.2.2.2.2.1, hHeld.2.2.2.2.2.2.2.2.2.2.2.2.2.2.2.2.2.2.2.2.2.2.2.2.2.2.2.1, hHeld.2.2.2.2.2.2.2.2.2.2.2.2.2.2.2.2.2.2.2.2.2.2.2.2.2.2.2.2.1, hHeld.2.2.2.2.2.2.2.2.2.2.2.2.2.2.2.2.2.2.2.2.2.2.2.2.2.2.2.2.2.1, hHeld.2.2.2.2.2.2.2.2.2.2.2.2.2.2.2.2.2.2.2.2.2.2.2.2.2.2.2.2.2.2.1, hHeld.2.2.2.2.2.2.2.2.2.2.2.2.2.2.2.2.2.2.2.2.2.2.2.2.2.2.2.2.2.2.2.1, hHeld.2.2.2.2.2.2.2.2.2.2.2.2.2.2.2.2.2.2.2.2.2.2.2.2.2.2.2.2.2.2.2.2.1, hHeld.2.2.2.2.2.2.2.2.2.2.2.2.2.2.2.2.2.2.2.2.2.2.2.2.2.2.2.2.2.2.2.2.2.1, hHeld.2.2.2.2.2.2.2.2.2.2.2.2.2.2.2.2.2.2.2.2.2.2.2.2.2.2.2.2.2.2.2.2.2.2.1, hHeld.2.2.2.2.2.2.2.2.2.2.2.2.2.2.2.2.2.2.2.2.2.2.2.2.2.2.2.2.2.2.2.2.2.2.2.1, hHeld.2.2.2.2.2.2.2.2.2.2.2.2.2.2.2.2.2.2.2.2.2.2.2.2.2.2.2.2.2.2.2.2.2.2.2.2.1, hHeld.2.2.2.2.2.2.2.2.2.2.2.2.2.2.2.2.2.2.2.2.2.2.2.2.2.2.2.2.2.2.2.2.2.2.2.2.2.1, hHeld.2.2.2.2.2.2.2.2.2.2.2.2.2.2.2.2.2.2.2.2.2.2.2.2.2.2.2.2.2.2.2.2.2.2.2.2.2.2.1, hHeld.2.2.2.2.2.2.2.2.2.2.2.2.2.2.2.2.2.2.2.2.2.2.2.2.2.2.2.2.2.2.2.2.2.2.2.2.2.2.2.1, hHeld.2.2.2.2.2.2.2.2.2.2.2.2.2.2.2.2.2.2.2.2.2.2.2.2.2.2.2.2.2.2.2.2.2.2.2.2.2.2.2.2.1, hHeld.2.2.2.2.2.2.2.2.2.2.2.2.2.2.2.2.2.2.2.2.2.2.2.2.2.2.2.2.2.2.2.2.2.2.2.2.2.2.2.2.2.1, hHeld.2.2.2.2.2.2.2.2.2.2.2.2.2.2.2.2.2.2.2.2.2.2.2.2.2.2.2.2.2.2.2.2.2.2.2.2.2.2.2.2.2.2.1, hHeld.2.2.2.2.2.2.2.2.2.2.2.2.2.2.2.2.2.2.2.2.2.2.2.2.2.2.2.2.2.2.2.2.2.2.2.2.2.2.2.2.2.2.2.1, hHeld.2.2.2.2.2.2.2.2.2.2.2.2.2.2.2.2.2.2.2.2.2.2.2.2.2.2.2.2.2.2.2.2.2.2.2.2.2.2.2.2.2.2.2.2⟩ (fun hHeld => ?_)
         clear hK K
         refine norm_ (a' := ?_) ?_ ?_
         rotate_left
         ·show Act.put _ (some 104) _ = _
          simp only [Act.put, List.setIfInBounds_toArray, List.set_cons_zero, List.set_cons_succ, i64_w, i32_w]
          rfl
         refine pz_ 10 (some 105) ?_
         refine pz_ 11 (some 106) ?_
         refine pz_ 12 (some 107) ?_
         refine pz_ 13 (some 108) ?_
         refine pz_ 14 (some 109) ?_
         refine pz_ 16 (some 111) ?_
         refine pz_ 17 (some 112) ?_
         refine pz_ 19 (some 114) ?_
         refine pz_ 20 (some 115) ?_
         refine pz_ 23 (some 118) ?_
         refine pz_ 24 (some 119) ?_
         refine tz_ 15 (some 110) hHeld ?_
         refine tz_ 18 (some 113) hHeld ?_
         refine tz_ 21 (some 116) hHeld ?_
         refine tz_ 22 (some 117) hHeld ?_
         refine tz_ 25 (some 120) hHeld ?_
         refine oz_ 26 (some 121) (fun K hK => ?_)
         refine Kd.R_lit_step k24 _ 24 ?hg (N := 121) ?hd (xs := ([(⟨(rd_T24 t150 0).f0, (rd_T24 t150 0).f1, (rd_T24 t150 0).f2, (rd_T24 t150 0).f3, (rd_T24 t150 0).f4⟩ : S24), (⟨(rd_T24 t150 1).f0, (rd_T24 t150 1).f1, (rd_T24 t150 1).f2, (rd_T24 t150 1).f3, (rd_T24 t150 1).f4⟩ : S24), (⟨(rd_T24 t150 2).f0, (rd_T24 t150 2).f1, (rd_T24 t150 2).f2, (rd_T24 t150 2).f3, (rd_T24 t150 2).f4⟩ : S24), (⟨5, 1, 10, 0, (⟨#[]⟩ : ByteArray)⟩ : S24), (⟨(rd_T24 t150 3).f0, (rd_T24 t150 3).f1, (rd_T24 t150 3).f2, (rd_T24 t150 3).f3, (rd_T24 t150 3).f4⟩ : S24)] : List (S24))) (inner := [.int .i64 ((rd_T24 t150 0).f0), .int .i64 ((rd_T24 t150 0).f1), .int .i64 ((rd_T24 t150 0).f2), .int .i64 ((rd_T24 t150 0).f3), .string ((rd_T24 t150 0).f4), .int .i64 ((rd_T24 t150 1).f0), .int .i64 ((rd_T24 t150 1).f1), .int .i64 ((rd_T24 t150 1).f2), .int .i64 ((rd_T24 t150 1).f3), .string ((rd_T24 t150 1).f4), .int .i64 ((rd_T24 t150 2).f0), .int .i64 ((rd_T24 t150 2).f1), .int .i64 ((rd_T24 t150 2).f2), .int .i64 ((rd_T24 t150 2).f3), .string ((rd_T24 t150 2).f4), .int .i64 5, .int .i64 1, .int .i64 10, .int .i64 0, .string (⟨#[]⟩ : ByteArray), .int .i64 ((rd_T24 t150 3).f0), .int .i64 ((rd_T24 t150 3).f1), .int .i64 ((rd_T24 t150 3).f2), .int .i64 ((rd_T24 t150 3).f3), .string ((rd_T24 t150 3).f4)]) (ok := fun _ => True) (okp := fun _ => True) ?hr ?hp (fun _ hk => hk) trivial (Below.refl _ _) (Nat.le_refl _) (by simp) ?_; (case hd => rfl); (case hg => rfl); (case hr => exact z13_); (case hp => exact (Reps.c5 (show Kd.M k24 _ _ _ (⟨(rd_T24 t150 0).f0, (rd_T24 t150 0).f1, (rd_T24 t150 0).f2, (rd_T24 t150 0).f3, (rd_T24 t150 0).f4⟩ : S24) [.int .i64 ((rd_T24 t150 0).f0), .int .i64 ((rd_T24 t150 0).f1), .int .i64 ((rd_T24 t150 0).f2), .int .i64 ((rd_T24 t150 0).f3), .string ((rd_T24 t150 0).f4)] from (k24_mkM _ _ _ (⟨(rd_T24 t150 0).f0, (rd_T24 t150 0).f1, (rd_T24 t150 0).f2, (rd_T24 t150 0).f3, (rd_T24 t150 0).f4⟩ : S24) )) (Reps.c5 (show Kd.M k24 _ _ _ (⟨(rd_T24 t150 1).f0, (rd_T24 t150 1).f1, (rd_T24 t150 1).f2, (rd_T24 t150 1).f3, (rd_T24 t150 1).f4⟩ : S24) [.int .i64 ((rd_T24 t150 1).f0), .int .i64 ((rd_T24 t150 1).f1), .int .i64 ((rd_T24 t150 1).f2), .int .i64 ((rd_T24 t150 1).f3), .string ((rd_T24 t150 1).f4)] from (k24_mkM _ _ _ (⟨(rd_T24 t150 1).f0, (rd_T24 t150 1).f1, (rd_T24 t150 1).f2, (rd_T24 t150 1).f3, (rd_T24 t150 1).f4⟩ : S24) )) (Reps.c5 (show Kd.M k24 _ _ _ (⟨(rd_T24 t150 2).f0, (rd_T24 t150 2).f1, (rd_T24 t150 2).f2, (rd_T24 t150 2).f3, (rd_T24 t150 2).f4⟩ : S24) [.int .i64 ((rd_T24 t150 2).f0), .int .i64 ((rd_T24 t150 2).f1), .int .i64 ((rd_T24 t150 2).f2), .int .i64 ((rd_T24 t150 2).f3), .string ((rd_T24 t150 2).f4)] from (k24_mkM _ _ _ (⟨(rd_T24 t150 2).f0, (rd_T24 t150 2).f1, (rd_T24 t150 2).f2, (rd_T24 t150 2).f3, (rd_T24 t150 2).f4⟩ : S24) )) (Reps.c5 (show Kd.M k24 _ _ _ (⟨5, 1, 10, 0, (⟨#[]⟩ : ByteArray)⟩ : S24) [.int .i64 5, .int .i64 1, .int .i64 10, .int .i64 0, .string (⟨#[]⟩ : ByteArray)] from (k24_mkM _ _ _ (⟨5, 1, 10, 0, (⟨#[]⟩ : ByteArray)⟩ : S24) )) (Reps.c5 (show Kd.M k24 _ _ _ (⟨(rd_T24 t150 3).f0, (rd_T24 t150 3).f1, (rd_T24 t150 3).f2, (rd_T24 t150 3).f3, (rd_T24 t150 3).f4⟩ : S24) [.int .i64 ((rd_T24 t150 3).f0), .int .i64 ((rd_T24 t150 3).f1), .int .i64 ((rd_T24 t150 3).f2), .int .i64 ((rd_T24 t150 3).f3), .string ((rd_T24 t150 3).f4)] from (k24_mkM _ _ _ (⟨(rd_T24 t150 3).f0, (rd_T24 t150 3).f1, (rd_T24 t150 3).f2, (rd_T24 t150 3).f3, (rd_T24 t150 3).f4⟩ : S24) )) (Reps.none _ _)))))))
         intro v198 w59 ho60 hb hg_ hnew_
         have HS5_ := hbc_ hb hHeld.2.2.2.2.2.1
         have HS6_ := hbc_ hb hHeld.2.2.2.2.2.2.1
         have HS7_ := hbc_ hb hHeld.2.2.2.2.2.2.2.1
         have HS8_ := hbc_ hb hHeld.2.2.2.2.2.2.2.2.1
         have HS9_ := hbc_ hb hHeld.2.2.2.2.2.2.2.2.2.1
         have HS10_ := hbc_ hb hHeld.2.2.2.2.2.2.2.2.2.2.1
         have HS11_ := hbc_ hb hHeld.2.2.2.2.2.2.2.2.2.2.2.1
         have HS12_ := hbc_ hb hHeld.2.2.2.2.2.2.2.2.2.2.2.2.1
         have HS13_ := hbc_ hb hHeld.2.2.2.2.2.2.2.2.2.2.2.2.2.1
         have HS14_ := hbc_ hb hHeld.2.2.2.2.2.2.2.2.2.2.2.2.2.2.1
         have HS15_ := hbc_ hb hHeld.2.2.2.2.2.2.2.2.2.2.2.2.2.2.2.1
         have HS16_ := hbc_ hb hHeld.2.2.2.2.2.2.2.2.2.2.2.2.2.2.2.2.1
         have HS17_ := hbc_ hb hHeld.2.2.2.2.2.2.2.2.2.2.2.2.2.2.2.2.2.1
         have HS18_ := hbc_ hb hHeld.2.2.2.2.2.2.2.2.2.2.2.2.2.2.2.2.2.2.1
         have HS19_ := hbc_ hb hHeld.2.2.2.2.2.2.2.2.2.2.2.2.2.2.2.2.2.2.2.1
         have HS20_ := hbc_ hb hHeld.2.2.2.2.2.2.2.2.2.2.2.2.2.2.2.2.2.2.2.2.1
         have HS21_ := hbc_ hb hHeld.2.2.2.2.2.2.2.2.2.2.2.2.2.2.2.2.2.2.2.2.2.1
         have HS22_ := hbc_ hb hHeld.2.2.2.2.2.2.2.2.2.2.2.2.2.2.2.2.2.2.2.2.2.2.1
         have HS23_ := hbc_ hb hHeld.2.2.2.2.2.2.2.2.2.2.2.2.2.2.2.2.2.2.2.2.2.2.2.1
         have HS24_ := hbc_ hb hHeld.2.2.2.2.2.2.2.2.2.2.2.2.2.2.2.2.2.2.2.2.2.2.2.2.1
         have HS25_ := hbc_ hb hHeld.2.2.2.2.2.2.2.2.2.2.2.2.2.2.2.2.2.2.2.2.2.2.2.2.2.1
         have HS26_ := hbc_ hb hHeld.2.2.2.2.2.2.2.2.2.2.2.2.2.2.2.2.2.2.2.2.2.2.2.2.2.2.1
         have HS27_ := hbc_ hb hHeld.2.2.2.2.2.2.2.2.2.2.2.2.2.2.2.2.2.2.2.2.2.2.2.2.2.2.2.1
         have HS28_ := hbc_ hb hHeld.2.2.2.2.2.2.2.2.2.2.2.2.2.2.2.2.2.2.2.2.2.2.2.2.2.2.2.2.1
         have HS29_ := hbc_ hb hHeld.2.2.2.2.2.2.2.2.2.2.2.2.2.2.2.2.2.2.2.2.2.2.2.2.2.2.2.2.2.1
         have HS30_ := hbc_ hb hHeld.2.2.2.2.2.2.2.2.2.2.2.2.2.2.2.2.2.2.2.2.2.2.2.2.2.2.2.2.2.2.1
         have HS31_ := hbc_ hb hHeld.2.2.2.2.2.2.2.2.2.2.2.2.2.2.2.2.2.2.2.2.2.2.2.2.2.2.2.2.2.2.2.1
         have HS32_ := hbc_ hb hHeld.2.2.2.2.2.2.2.2.2.2.2.2.2.2.2.2.2.2.2.2.2.2.2.2.2.2.2.2.2.2.2.2.1
         have HS33_ := hbc_ hb hHeld.2.2.2.2.2.2.2.2.2.2.2.2.2.2.2.2.2.2.2.2.2.2.2.2.2.2.2.2.2.2.2.2.2.1
         have HS34_ := hbc_ hb hHeld.2.2.2.2.2.2.2.2.2.2.2.2.2.2.2.2.2.2.2.2.2.2.2.2.2.2.2.2.2.2.2.2.2.2.1
         have HS35_ := hbc_ hb hHeld.2.2.2.2.2.2.2.2.2.2.2.2.2.2.2.2.2.2.2.2.2.2.2.2.2.2.2.2.2.2.2.2.2.2.2.1
         have HS36_ := hbc_ hb hHeld.2.2.2.2.2.2.2.2.2.2.2.2.2.2.2.2.2.2.2.2.2.2.2.2.2.2.2.2.2.2.2.2.2.2.2.2.1
         have HS37_ := hbc_ hb hHeld.2.2.2.2.2.2.2.2.2.2.2.2.2.2.2.2.2.2.2.2.2.2.2.2.2.2.2.2.2.2.2.2.2.2.2.2.2.1
         have HS38_ := hbc_ hb hHeld.2.2.2.2.2.2.2.2.2.2.2.2.2.2.2.2.2.2.2.2.2.2.2.2.2.2.2.2.2.2.2.2.2.2.2.2.2.2.1
         have HS39_ := hbc_ hb hHeld.2.2.2.2.2.2.2.2.2.2.2.2.2.2.2.2.2.2.2.2.2.2.2.2.2.2.2.2.2.2.2.2.2.2.2.2.2.2.2.1
         have HS40_ := hbc_ hb hHeld.2.2.2.2.2.2.2.2.2.2.2.2.2.2.2.2.2.2.2.2.2.2.2.2.2.2.2.2.2.2.2.2.2.2.2.2.2.2.2.2.1
         have HS41_ := hbc_ hb hHeld.2.2.2.2.2.2.2.2.2.2.2.2.2.2.2.2.2.2.2.2.2.2.2.2.2.2.2.2.2.2.2.2.2.2.2.2.2.2.2.2.2.1
         have HS42_ := hbc_ hb hHeld.2.2.2.2.2.2.2.2.2.2.2.2.2.2.2.2.2.2.2.2.2.2.2.2.2.2.2.2.2.2.2.2.2.2.2.2.2.2.2.2.2.2.1
         have HS43_ := hbc_ hb hHeld.2.2.2.2.2.2.2.2.2.2.2.2.2.2.2.2.2.2.2.2.2.2.2.2.2.2.2.2.2.2.2.2.2.2.2.2.2.2.2.2.2.2.2.1
         have HS44_ := hbc_ hb hHeld.2.2.2.2.2.2.2.2.2.2.2.2.2.2.2.2.2.2.2.2.2.2.2.2.2.2.2.2.2.2.2.2.2.2.2.2.2.2.2.2.2.2.2.2
         clear hg_ hnew_
         (first | rw [← Ny197.out] at ho60 | (simp only [Int.reduceToNat] at ho60; rw [← Ny197.out] at ho60))
         have n0_ := Aside0.mk (Kd.R_elder' z15_ (Kd.R_base ho60) hb)
         have n1_ := Aside0.mk (Kd.R_below z20_ hb)
         have n2_ := Aside0.mk (Kd.R_below z23_ hb)
         have n3_ := Aside0.mk (Kd.R_elder' z18_ (Kd.R_base ho60) hb)
         have n4_ := Aside0.mk (Kd.R_elder' z21_ (Kd.R_base ho60) hb)
         have n5_ := Aside0.mk (Kd.R_elder' z24_ (Kd.R_base ho60) hb)
         have n6_ := Aside0.mk (Kd.R_elder' z28_ (Kd.R_base ho60) hb)
         have n7_ := Aside0.mk (Kd.R_elder' z31_ (Kd.R_base ho60) hb)
         have n8_ := Aside0.mk (Kd.R_below z42_ hb)
         have n9_ := Aside0.mk (Kd.R_below z53_ hb)
         have n10_ := Aside0.mk (Kd.R_lower (Kd.R_newB (Kd.R_new' (Kd.R_new' (Kd.R_new' (Kd.R_new' (Kd.R_new' (Kd.R_new' ho60 (Kd.R_lt z15_)) (Kd.R_lt z18_)) (Kd.R_lt z21_)) (Kd.R_lt z24_)) (Kd.R_lt z28_)) (Kd.R_lt z31_)) (g := gb161) (o := .cells #[.int .i64 5, .int .i64 1, .int .i64 10, .int .i64 0, .string (⟨#[]⟩ : ByteArray)] 24 (0, 0)) z14_) (below_size z8_))
         have n11_ := Aside0.mk (blk_below (g := gb161) (o := .cells #[.int .i64 5, .int .i64 1, .int .i64 10, .int .i64 0, .string (⟨#[]⟩ : ByteArray)] 24 (0, 0)) z14_ hb)
         have n12_ := Aside0.mk (below_step z8_ hb)
         clear HO152
         clear HO156
         clear HO160
         clear HO164
         clear HO169
         clear HO173
         clear HO177
         clear HO181
         clear HO187
         clear HO191
         clear BK161
         clear HB
         have HO152 := n0_
         have HO156 := n1_
         have HO160 := n2_
         have HO164 := n3_
         have HO169 := n4_
         have HO173 := n5_
         have HO177 := n6_
         have HO181 := n7_
         have HO187 := n8_
         have HO191 := n9_
         have HO199 := n10_
         have BK161 := n11_
         have HB := n12_
         clear n0_ n1_ n2_ n3_ n4_ n5_ n6_ n7_ n8_ n9_ n10_ n11_ n12_
         clear hb ho60
         obtain ⟨Ao61, co61, eo61⟩ := Kd.R_slice HO164.out
         (first | subst eo61 | (injection eo61 with f1_ f2_ f3_; have f4_ := f1_.symm; have f5_ := f3_.symm; clear f1_ f2_ f3_; subst f4_; subst f5_))
         obtain ⟨Ao62, co62, eo62⟩ := Kd.R_slice HO199.out
         (first | subst eo62 | (injection eo62 with f1_ f2_ f3_; have f4_ := f1_.symm; have f5_ := f3_.symm; clear f1_ f2_ f3_; subst f4_; subst f5_))
         refine hK.out _ _ ⟨(blk_cell BK161.out 0).trans rfl, (blk_cell BK161.out 1).trans rfl, (blk_cell BK161.out 2).trans rfl, (blk_cell BK161.out 3).trans rfl, (blk_cell BK161.out 4).trans rfl, HS5_, HS6_, HS7_, HS8_, HS9_, HS10_, HS11_, HS12_, HS13_, HS14_, HS15_, HS16_, HS17_, HS18_, HS19_, HS20_, HS21_, HS22_, HS23_, HS24_, HS25_, HS26_, HS27_, HS28_, HS29_, HS30_, HS31_, HS32_, HS33_, HS34_, HS35_, HS36_, HS37_, HS38_, HS39_, HS40_, HS41_, HS42_, HS43_, HS44_⟩ (fun hHeld => ?_)
         clear hK K
         refine norm_ (a' := ?_) ?_ ?_
         rotate_left
         ·show Act.put _ (some 121) _ = _
          simp only [Act.put, List.setIfInBounds_toArray, List.set_cons_zero, List.set_cons_succ, i64_w, i32_w]
          rfl
         refine oz_ 27 (some 122) (fun K hK => ?_)
         refine goes_ Try.func22 (by kernel_rfl) rfl #[.slice Ao61 t162.length co61, .slice Ao62 y197.length co62] (by rfl) rfl rfl z2_ ?_
         with_reducible refine (formeref10_Same.calls k _ _ t162 _ _ y197 true _ ?side1 ?side2 ?side3 ?side4 A26.out).mono ?_
         (case side1 => repeat (first | exact (Kd.R_reads' HO164.out).2.2 | (with_reducible refine Kd.C_alloc ?_ _) | (with_reducible refine Kd.C_drewN ?_ _) | (with_reducible refine Kd.C_drew ?_)))
         (case side2 => exact (Kd.R_reads' HO164.out).2.1)
         (case side3 => repeat (first | exact (Kd.R_reads' HO199.out).2.2 | (with_reducible refine Kd.C_alloc ?_ _) | (with_reducible refine Kd.C_drewN ?_ _) | (with_reducible refine Kd.C_drew ?_)))
         (case side4 => exact (Kd.R_reads' HO199.out).2.1)
         rintro e w' ⟨rfl, ⟨nd, rfl⟩⟩
         refine ⟨_, rfl, ?_⟩
         refine hK.out _ _ ⟨(blk_cell BK161.out 0).trans rfl, (blk_cell BK161.out 1).trans rfl, (blk_cell BK161.out 2).trans rfl, (blk_cell BK161.out 3).trans rfl, (blk_cell BK161.out 4).trans rfl, hHeld.2.2.2.2.2.1, hHeld.2.2.2.2.2.2.1, hHeld.2.2.2.2.2.2.2.1, hHeld.2.2.2.2.2.2.2.2.1, hHeld.2.2.2.2.2.2.2.2.2.1, hHeld.2.2.2.2.2.2.2.2.2.2.1, hHeld.2.2.2.2.2.2.2.2.2.2.2.1, hHeld.2.2.2.2.2.2.2.2.2.2.2.2.1, hHeld.2.2.2.2.2.2.2.2.2.2.2.2.2.1, hHeld.2.2.2.2.2.2.2.2.2.2.2.2.2.2.1, hHeld.2.2.2.2.2.2.2.2.2.2.2.2.2.2.2.1, hHeld.2.2.2.2.2.2.2.2.2.2.2.2.2.2.2.2.1, hHeld.2.2.2.2.2.2.2.2.2.2.2.2.2.2.2.2.2.1, hHeld.2.2.2.2.2.2.2.2.2.2.2.2.2.2.2.2.2.2.1, hHeld.2.2.2.2.2.2.2.2.2.2.2.2.2.2.2.2.2.2.2.1, hHeld.2.2.2.2.2.2.2.2.2.2.2.2.2.2.2.2.2.2.2.2.1, hHeld.2.2.2.2.2.2.2.2.2.2.2.2.2.2.2.2.2.2.2.2.2.1, hHeld.2.2.2.2.2.2.2.2.2.2.2.2.2.2.2.2.2.2.2.2.2.2.1, hHeld.2.2.2.2.2.2.2.2.2.2.2.2.2.2.2.2.2.2.2.2.2.2.2.1, hHeld.2.2.2.2.2.2.2.2.2.2.2.2.2.2.2.2.2.2.2.2.2.2.2.2.1, hHeld.2.2.2.2.2.2.2.2.2.2.2.2.2.2.2.2.2.2.2.2.2.2.2.2.2.1, hHeld.2.2.2.2.2.2.2.2.2.2.2.2.2.2.2.2.2.2.2.2.2.2.2.2.2.2.1, hHeld.2.2.2.2.2.2.2.2.2.2.2.2.2.2.2.2.2.2.2.2.2.2.2.2.2.2.2.1, hHeld.2.2.2.2.2.2.2.2.2.2.2.2.2.2.2.2.2.2.2.2.2.2.2.2.2.2.2.2.1, hHeld.2.2.2.2.2.2.2.2.2.2.2.2.2.2.2.2.2.2.2.2.2.2.2.2.2.2.2.2.2.1, hHeld.2.2.2.2.2.2.2.2.2.2.2.2.2.2.2.2.2.2.2.2.2.2.2.2.2.2.2.2.2.2.1, hHeld.2.2.2.2.2.2.2.2.2.2.2.2.2.2.2.2.2.2.2.2.2.2.2.2.2.2.2.2.2.2.2.1, hHeld.2.2.2.2.2.2.2.2.2.2.2.2.2.2.2.2.2.2.2.2.2.2.2.2.2.2.2.2.2.2.2.2.1, hHeld.2.2.2.2.2.2.2.2.2.2.2.2.2.2.2.2.2.2.2.2.2.2.2.2.2.2.2.2.2.2.2.2.2.1, hHeld.2.2.2.2.2.2.2.2.2.2.2.2.2.2.2.2.2.2.2.2.2.2.2.2.2.2.2.2.2.2.2.2.2.2.1, hHeld.2.2.2.2.2.2.2.2.2.2.2.2.2.2.2.2.2.2.2.2.2.2.2.2.2.2.2.2.2.2.2.2.2.2.2.1, hHeld.2.2.2.2.2.2.2.2.2.2.2.2.2.2.2.2.2.2.2.2.2.2.2.2.2.2.2.2.2.2.2.2.2.2.2.2.1, hHeld.2.2.2.2.2.2.2.2.2.2.2.2.2.2.2.2.2.2.2.2.2.2.2.2.2.2.2.2.2.2.2.2.2.2.2.2.2.1, hHeld.2.2.2.2.2.2.2.2.2.2.2.2.2.2.2.2.2.2.2.2.2.2.2.2.2.2.2.2.2.2.2.2.2.2.2.2.2.2.1, hHeld.2.2.2.2.2.2.2.2.2.2.2.2.2.2.2.2.2.2.2.2.2.2.2.2.2.2.2.2.2.2.2.2.2.2.2.2.2.2.2.1, hHeld.2.2.2.2.2.2.2.2.2.2.2.2.2.2.2.2.2.2.2.2.2.2.2.2.2.2.2.2.2.2.2.2.2.2.2.2.2.2.2.2.1, hHeld.2.2.2.2.2.2.2.2.2.2.2.2.2.2.2.2.2.2.2.2.2.2.2.2.2.2.2.2.2.2.2.2.2.2.2.2.2.2.2.2.2.1, hHeld.2.2.2.2.2.2.2.2.2.2.2.2.2.2.2.2.2.2.2.2.2.2.2.2.2.2.2.2.2.2.2.2.2.2.2.2.2.2.2.2.2.2.1, hHeld.2.2.2.2.2.2.2.2.2.2.2.2.2.2.2.2.2.2.2.2.2.2.2.2.2.2.2.2.2.2.2.2.2.2.2.2.2.2.2.2.2.2.2.1, hHeld.2.2.2.2.2.2.2.2.2.2.2.2.2.2.2.2.2.2.2.2.2.2.2.2.2.2.2.2.2.2.2.2.2.2.2.2.2.2.2.2.2.2.2.2⟩ (fun hHeld => ?_)
         clear hK K
         refine norm_ (a' := ?_) ?_ ?_
         rotate_left
         ·show Act.put _ (some 122) _ = _
          simp only [Act.put, List.setIfInBounds_toArray, List.set_cons_zero, List.set_cons_succ, i64_w, i32_w]
          rfl
         refine pz_ 28 (some 123) ?_
         refine pz_ 29 (some 124) ?_
         refine pz_ 30 (some 125) ?_
         refine pz_ 31 (some 126) ?_
         refine pz_ 32 (some 127) ?_
         refine pz_ 34 (some 129) ?_
         refine pz_ 35 (some 130) ?_
         refine pz_ 37 (some 132) ?_
         refine pz_ 38 (some 133) ?_
         refine pz_ 40 (some 135) ?_
         refine pz_ 41 (some 136) ?_
         refine tz_ 33 (some 128) hHeld ?_
         refine tz_ 36 (some 131) hHeld ?_
         refine tz_ 39 (some 134) hHeld ?_
         refine tz_ 42 (some 137) hHeld ?_
         refine oz_ 43 (some 138) (fun K hK => ?_)
         refine Kd.R_lit_step k24 _ 24 ?hg (N := 138) ?hd (xs := ([(⟨(rd_T24 t150 0).f0, (rd_T24 t150 0).f1, (rd_T24 t150 0).f2, (rd_T24 t150 0).f3, (rd_T24 t150 0).f4⟩ : S24), (⟨(rd_T24 t150 3).f0, (rd_T24 t150 3).f1, (rd_T24 t150 3).f2, (rd_T24 t150 3).f3, (rd_T24 t150 3).f4⟩ : S24), (⟨(rd_T24 t150 1).f0, (rd_T24 t150 1).f1, (rd_T24 t150 1).f2, (rd_T24 t150 1).f3, (rd_T24 t150 1).f4⟩ : S24), (⟨(rd_T24 t150 2).f0, (rd_T24 t150 2).f1, (rd_T24 t150 2).f2, (rd_T24 t150 2).f3, (rd_T24 t150 2).f4⟩ : S24)] : List (S24))) (inner := [.int .i64 ((rd_T24 t150 0).f0), .int .i64 ((rd_T24 t150 0).f1), .int .i64 ((rd_T24 t150 0).f2), .int .i64 ((rd_T24 t150 0).f3), .string ((rd_T24 t150 0).f4), .int .i64 ((rd_T24 t150 3).f0), .int .i64 ((rd_T24 t150 3).f1), .int .i64 ((rd_T24 t150 3).f2), .int .i64 ((rd_T24 t150 3).f3), .string ((rd_T24 t150 3).f4), .int .i64 ((rd_T24 t150 1).f0), .int .i64 ((rd_T24 t150 1).f1), .int .i64 ((rd_T24 t150 1).f2), .int .i64 ((rd_T24 t150 1).f3), .string ((rd_T24 t150 1).f4), .int .i64 ((rd_T24 t150 2).f0), .int .i64 ((rd_T24 t150 2).f1), .int .i64 ((rd_T24 t150 2).f2), .int .i64 ((rd_T24 t150 2).f3), .string ((rd_T24 t150 2).f4)]) (ok := fun _ => True) (okp := fun _ => True) ?hr ?hp (fun _ hk => hk) trivial (Below.refl _ _) (Nat.le_refl _) (by simp) ?_; (case hd => rfl); (case hg => rfl); (case hr => exact z13_); (case hp => exact (Reps.c5 (show Kd.M k24 _ _ _ (⟨(rd_T24 t150 0).f0, (rd_T24 t150 0).f1, (rd_T24 t150 0).f2, (rd_T24 t150 0).f3, (rd_T24 t150 0).f4⟩ : S24) [.int .i64 ((rd_T24 t150 0).f0), .int .i64 ((rd_T24 t150 0).f1), .int .i64 ((rd_T24 t150 0).f2), .int .i64 ((rd_T24 t150 0).f3), .string ((rd_T24 t150 0).f4)] from (k24_mkM _ _ _ (⟨(rd_T24 t150 0).f0, (rd_T24 t150 0).f1, (rd_T24 t150 0).f2, (rd_T24 t150 0).f3, (rd_T24 t150 0).f4⟩ : S24) )) (Reps.c5 (show Kd.M k24 _ _ _ (⟨(rd_T24 t150 3).f0, (rd_T24 t150 3).f1, (rd_T24 t150 3).f2, (rd_T24 t150 3).f3, (rd_T24 t150 3).f4⟩ : S24) [.int .i64 ((rd_T24 t150 3).f0), .int .i64 ((rd_T24 t150 3).f1), .int .i64 ((rd_T24 t150 3).f2), .int .i64 ((rd_T24 t150 3).f3), .string ((rd_T24 t150 3).f4)] from (k24_mkM _ _ _ (⟨(rd_T24 t150 3).f0, (rd_T24 t150 3).f1, (rd_T24 t150 3).f2, (rd_T24 t150 3).f3, (rd_T24 t150 3).f4⟩ : S24) )) (Reps.c5 (show Kd.M k24 _ _ _ (⟨(rd_T24 t150 1).f0, (rd_T24 t150 1).f1, (rd_T24 t150 1).f2, (rd_T24 t150 1).f3, (rd_T24 t150 1).f4⟩ : S24) [.int .i64 ((rd_T24 t150 1).f0), .int .i64 ((rd_T24 t150 1).f1), .int .i64 ((rd_T24 t150 1).f2), .int .i64 ((rd_T24 t150 1).f3), .string ((rd_T24 t150 1).f4)] from (k24_mkM _ _ _ (⟨(rd_T24 t150 1).f0, (rd_T24 t150 1).f1, (rd_T24 t150 1).f2, (rd_T24 t150 1).f3, (rd_T24 t150 1).f4⟩ : S24) )) (Reps.c5 (show Kd.M k24 _ _ _ (⟨(rd_T24 t150 2).f0, (rd_T24 t150 2).f1, (rd_T24 t150 2).f2, (rd_T24 t150 2).f3, (rd_T24 t150 2).f4⟩ : S24) [.int .i64 ((rd_T24 t150 2).f0), .int .i64 ((rd_T24 t150 2).f1), .int .i64 ((rd_T24 t150 2).f2), .int .i64 ((rd_T24 t150 2).f3), .string ((rd_T24 t150 2).f4)] from (k24_mkM _ _ _ (⟨(rd_T24 t150 2).f0, (rd_T24 t150 2).f1, (rd_T24 t150 2).f2, (rd_T24 t150 2).f3, (rd_T24 t150 2).f4⟩ : S24) )) (Reps.none _ _))))))
         intro v206 w63 ho64 hb hg_ hnew_
         have HS5_ := hbc_ hb hHeld.2.2.2.2.2.1
         have HS6_ := hbc_ hb hHeld.2.2.2.2.2.2.1
         have HS7_ := hbc_ hb hHeld.2.2.2.2.2.2.2.1
         have HS8_ := hbc_ hb hHeld.2.2.2.2.2.2.2.2.1
         have HS9_ := hbc_ hb hHeld.2.2.2.2.2.2.2.2.2.1
         have HS10_ := hbc_ hb hHeld.2.2.2.2.2.2.2.2.2.2.1
         have HS11_ := hbc_ hb hHeld.2.2.2.2.2.2.2.2.2.2.2.1
         have HS12_ := hbc_ hb hHeld.2.2.2.2.2.2.2.2.2.2.2.2.1
         have HS13_ := hbc_ hb hHeld.2.2.2.2.2.2.2.2.2.2.2.2.2.1
         have HS14_ := hbc_ hb hHeld.2.2.2.2.2.2.2.2.2.2.2.2.2.2.1
         have HS15_ := hbc_ hb hHeld.2.2.2.2.2.2.2.2.2.2.2.2.2.2.2.1
         have HS16_ := hbc_ hb hHeld.2.2.2.2.2.2.2.2.2.2.2.2.2.2.2.2.1
         have HS17_ := hbc_ hb hHeld.2.2.2.2.2.2.2.2.2.2.2.2.2.2.2.2.2.1
         have HS18_ := hbc_ hb hHeld.2.2.2.2.2.2.2.2.2.2.2.2.2.2.2.2.2.2.1
         have HS19_ := hbc_ hb hHeld.2.2.2.2.2.2.2.2.2.2.2.2.2.2.2.2.2.2.2.1
         have HS20_ := hbc_ hb hHeld.2.2.2.2.2.2.2.2.2.2.2.2.2.2.2.2.2.2.2.2.1
         have HS21_ := hbc_ hb hHeld.2.2.2.2.2.2.2.2.2.2.2.2.2.2.2.2.2.2.2.2.2.1
         have HS22_ := hbc_ hb hHeld.2.2.2.2.2.2.2.2.2.2.2.2.2.2.2.2.2.2.2.2.2.2.1
         have HS23_ := hbc_ hb hHeld.2.2.2.2.2.2.2.2.2.2.2.2.2.2.2.2.2.2.2.2.2.2.2.1
         have HS24_ := hbc_ hb hHeld.2.2.2.2.2.2.2.2.2.2.2.2.2.2.2.2.2.2.2.2.2.2.2.2.1
         have HS25_ := hbc_ hb hHeld.2.2.2.2.2.2.2.2.2.2.2.2.2.2.2.2.2.2.2.2.2.2.2.2.2.1
         have HS26_ := hbc_ hb hHeld.2.2.2.2.2.2.2.2.2.2.2.2.2.2.2.2.2.2.2.2.2.2.2.2.2.2.1
         have HS27_ := hbc_ hb hHeld.2.2.2.2.2.2.2.2.2.2.2.2.2.2.2.2.2.2.2.2.2.2.2.2.2.2.2.1
         have HS28_ := hbc_ hb hHeld.2.2.2.2.2.2.2.2.2.2.2.2.2.2.2.2.2.2.2.2.2.2.2.2.2.2.2.2.1
         have HS29_ := hbc_ hb hHeld.2.2.2.2.2.2.2.2.2.2.2.2.2.2.2.2.2.2.2.2.2.2.2.2.2.2.2.2.2.1
         have HS30_ := hbc_ hb hHeld.2.2.2.2.2.2.2.2.2.2.2.2.2.2.2.2.2.2.2.2.2.2.2.2.2.2.2.2.2.2.1
         have HS31_ := hbc_ hb hHeld.2.2.2.2.2.2.2.2.2.2.2.2.2.2.2.2.2.2.2.2.2.2.2.2.2.2.2.2.2.2.2.1
         have HS32_ := hbc_ hb hHeld.2.2.2.2.2.2.2.2.2.2.2.2.2.2.2.2.2.2.2.2.2.2.2.2.2.2.2.2.2.2.2.2.1
         have HS33_ := hbc_ hb hHeld.2.2.2.2.2.2.2.2.2.2.2.2.2.2.2.2.2.2.2.2.2.2.2.2.2.2.2.2.2.2.2.2.2.1
         have HS34_ := hbc_ hb hHeld.2.2.2.2.2.2.2.2.2.2.2.2.2.2.2.2.2.2.2.2.2.2.2.2.2.2.2.2.2.2.2.2.2.2.1
         have HS35_ := hbc_ hb hHeld.2.2.2.2.2.2.2.2.2.2.2.2.2.2.2.2.2.2.2.2.2.2.2.2.2.2.2.2.2.2.2.2.2.2.2.1
         have HS36_ := hbc_ hb hHeld.2.2.2.2.2.2.2.2.2.2.2.2.2.2.2.2.2.2.2.2.2.2.2.2.2.2.2.2.2.2.2.2.2.2.2.2.1
         have HS37_ := hbc_ hb hHeld.2.2.2.2.2.2.2.2.2.2.2.2.2.2.2.2.2.2.2.2.2.2.2.2.2.2.2.2.2.2.2.2.2.2.2.2.2.1
         have HS38_ := hbc_ hb hHeld.2.2.2.2.2.2.2.2.2.2.2.2.2.2.2.2.2.2.2.2.2.2.2.2.2.2.2.2.2.2.2.2.2.2.2.2.2.2.1
         have HS39_ := hbc_ hb hHeld.2.2.2.2.2.2.2.2.2.2.2.2.2.2.2.2.2.2.2.2.2.2.2.2.2.2.2.2.2.2.2.2.2.2.2.2.2.2.2.1
         have HS40_ := hbc_ hb hHeld.2.2.2.2.2.2.2.2.2.2.2.2.2.2.2.2.2.2.2.2.2.2.2.2.2.2.2.2.2.2.2.2.2.2.2.2.2.2.2.2.1
         have HS41_ := hbc_ hb hHeld.2.2.2.2.2.2.2.2.2.2.2.2.2.2.2.2.2.2.2.2.2.2.2.2.2.2.2.2.2.2.2.2.2.2.2.2.2.2.2.2.2.1
         have HS42_ := hbc_ hb hHeld.2.2.2.2.2.2.2.2.2.2.2.2.2.2.2.2.2.2.2.2.2.2.2.2.2.2.2.2.2.2.2.2.2.2.2.2.2.2.2.2.2.2.1
         have HS43_ := hbc_ hb hHeld.2.2.2.2.2.2.2.2.2.2.2.2.2.2.2.2.2.2.2.2.2.2.2.2.2.2.2.2.2.2.2.2.2.2.2.2.2.2.2.2.2.2.2.1
         have HS44_ := hbc_ hb hHeld.2.2.2.2.2.2.2.2.2.2.2.2.2.2.2.2.2.2.2.2.2.2.2.2.2.2.2.2.2.2.2.2.2.2.2.2.2.2.2.2.2.2.2.2
         clear hg_ hnew_
         (first | rw [← Ny205.out] at ho64 | (simp only [Int.reduceToNat] at ho64; rw [← Ny205.out] at ho64))
         have n0_ := Aside0.mk (Kd.R_elder' z15_ (Kd.R_base ho64) hb)
         have n1_ := Aside0.mk (Kd.R_below z20_ hb)
         have n2_ := Aside0.mk (Kd.R_below z23_ hb)
         have n3_ := Aside0.mk (Kd.R_elder' z18_ (Kd.R_base ho64) hb)
         have n4_ := Aside0.mk (Kd.R_elder' z21_ (Kd.R_base ho64) hb)
         have n5_ := Aside0.mk (Kd.R_elder' z24_ (Kd.R_base ho64) hb)
         have n6_ := Aside0.mk (Kd.R_elder' z28_ (Kd.R_base ho64) hb)
         have n7_ := Aside0.mk (Kd.R_elder' z31_ (Kd.R_base ho64) hb)
         have n8_ := Aside0.mk (Kd.R_below z42_ hb)
         have n9_ := Aside0.mk (Kd.R_below z53_ hb)
         have n10_ := Aside0.mk (Kd.R_elder' z45_ (Kd.R_base ho64) hb)
         have n11_ := Aside0.mk (Kd.R_lower (Kd.R_newB (Kd.R_new' (Kd.R_new' (Kd.R_new' (Kd.R_new' (Kd.R_new' (Kd.R_new' (Kd.R_new' ho64 (Kd.R_lt z15_)) (Kd.R_lt z18_)) (Kd.R_lt z21_)) (Kd.R_lt z24_)) (Kd.R_lt z28_)) (Kd.R_lt z31_)) (Kd.R_lt z45_)) (g := gb161) (o := .cells #[.int .i64 5, .int .i64 1, .int .i64 10, .int .i64 0, .string (⟨#[]⟩ : ByteArray)] 24 (0, 0)) z14_) (below_size z8_))
         have n12_ := Aside0.mk (blk_below (g := gb161) (o := .cells #[.int .i64 5, .int .i64 1, .int .i64 10, .int .i64 0, .string (⟨#[]⟩ : ByteArray)] 24 (0, 0)) z14_ hb)
         have n13_ := Aside0.mk (below_step z8_ hb)
         clear HO152
         clear HO156
         clear HO160
         clear HO164
         clear HO169
         clear HO173
         clear HO177
         clear HO181
         clear HO187
         clear HO191
         clear HO199
         clear BK161
         clear HB
         have HO152 := n0_
         have HO156 := n1_
         have HO160 := n2_
         have HO164 := n3_
         have HO169 := n4_
         have HO173 := n5_
         have HO177 := n6_
         have HO181 := n7_
         have HO187 := n8_
         have HO191 := n9_
         have HO199 := n10_
         have HO207 := n11_
         have BK161 := n12_
         have HB := n13_
         clear n0_ n1_ n2_ n3_ n4_ n5_ n6_ n7_ n8_ n9_ n10_ n11_ n12_ n13_
         clear hb ho64
         obtain ⟨Ao65, co65, eo65⟩ := Kd.R_slice HO169.out
         (first | subst eo65 | (injection eo65 with f1_ f2_ f3_; have f4_ := f1_.symm; have f5_ := f3_.symm; clear f1_ f2_ f3_; subst f4_; subst f5_))
         obtain ⟨Ao66, co66, eo66⟩ := Kd.R_slice HO207.out
         (first | subst eo66 | (injection eo66 with f1_ f2_ f3_; have f4_ := f1_.symm; have f5_ := f3_.symm; clear f1_ f2_ f3_; subst f4_; subst f5_))
         refine hK.out _ _ ⟨(blk_cell BK161.out 0).trans rfl, (blk_cell BK161.out 1).trans rfl, (blk_cell BK161.out 2).trans rfl, (blk_cell BK161.out 3).trans rfl, (blk_cell BK161.out 4).trans rfl, HS5_, HS6_, HS7_, HS8_, HS9_, HS10_, HS11_, HS12_, HS13_, HS14_, HS15_, HS16_, HS17_, HS18_, HS19_, HS20_, HS21_, HS22_, HS23_, HS24_, HS25_, HS26_, HS27_, HS28_, HS29_, HS30_, HS31_, HS32_, HS33_, HS34_, HS35_, HS36_, HS37_, HS38_, HS39_, HS40_, HS41_, HS42_, HS43_, HS44_⟩ (fun hHeld => ?_)
         clear hK K
         refine norm_ (a' := ?_) ?_ ?_
         rotate_left
         ·show Act.put _ (some 138) _ = _
          simp only [Act.put, List.setIfInBounds_toArray, List.set_cons_zero, List.set_cons_succ, i64_w, i32_w]
          rfl
         refine oz_ 44 (some 139) (fun K hK => ?_)
         refine goes_ Try.func22 (by kernel_rfl) rfl #[.slice Ao65 t166.length co65, .slice Ao66 y205.length co66] (by rfl) rfl rfl z2_ ?_
         with_reducible refine (formeref10_Same.calls k _ _ t166 _ _ y205 true _ ?side1 ?side2 ?side3 ?side4 A28.out).mono ?_
         (case side1 => repeat (first | exact (Kd.R_reads' HO169.out).2.2 | (with_reducible refine Kd.C_alloc ?_ _) | (with_reducible refine Kd.C_drewN ?_ _) | (with_reducible refine Kd.C_drew ?_)))
         (case side2 => exact (Kd.R_reads' HO169.out).2.1)
         (case side3 => repeat (first | exact (Kd.R_reads' HO207.out).2.2 | (with_reducible refine Kd.C_alloc ?_ _) | (with_reducible refine Kd.C_drewN ?_ _) | (with_reducible refine Kd.C_drew ?_)))
         (case side4 => exact (Kd.R_reads' HO207.out).2.1)
         rintro e w' ⟨rfl, ⟨nd, rfl⟩⟩
         refine ⟨_, rfl, ?_⟩
         refine hK.out _ _ ⟨(blk_cell BK161.out 0).trans rfl, (blk_cell BK161.out 1).trans rfl, (blk_cell BK161.out 2).trans rfl, (blk_cell BK161.out 3).trans rfl, (blk_cell BK161.out 4).trans rfl, hHeld.2.2.2.2.2.1, hHeld.2.2.2.2.2.2.1, hHeld.2.2.2.2.2.2.2.1, hHeld.2.2.2.2.2.2.2.2.1, hHeld.2.2.2.2.2.2.2.2.2.1, hHeld.2.2.2.2.2.2.2.2.2.2.1, hHeld.2.2.2.2.2.2.2.2.2.2.2.1, hHeld.2.2.2.2.2.2.2.2.2.2.2.2.1, hHeld.2.2.2.2.2.2.2.2.2.2.2.2.2.1, hHeld.2.2.2.2.2.2.2.2.2.2.2.2.2.2.1, hHeld.2.2.2.2.2.2.2.2.2.2.2.2.2.2.2.1, hHeld.2.2.2.2.2.2.2.2.2.2.2.2.2.2.2.2.1, hHeld.2.2.2.2.2.2.2.2.2.2.2.2.2.2.2.2.2.1, hHeld.2.2.2.2.2.2.2.2.2.2.2.2.2.2.2.2.2.2.1, hHeld.2.2.2.2.2.2.2.2.2.2.2.2.2.2.2.2.2.2.2.1, hHeld.2.2.2.2.2.2.2.2.2.2.2.2.2.2.2.2.2.2.2.2.1, hHeld.2.2.2.2.2.2.2.2.2.2.2.2.2.2.2.2.2.2.2.2.2.1, hHeld.2.2.2.2.2.2.2.2.2.2.2.2.2.2.2.2.2.2.2.2.2.2.1, hHeld.2.2.2.2.2.2.2.2.2.2.2.2.2.2.2.2.2.2.2.2.2.2.2.1, hHeld.2.2.2.2.2.2.2.2.2.2.2.2.2.2.2.2.2.2.2.2.2.2.2.2.1, hHeld.2.2.2.2.2.2.2.2.2.2.2.2.2.2.2.2.2.2.2.2.2.2.2.2.2.1, hHeld.2.2.2.2.2.2.2.2.2.2.2.2.2.2.2.2.2.2.2.2.2.2.2.2.2.2.1, hHeld.2.2.2.2.2.2.2.2.2.2.2.2.2.2.2.2.2.2.2.2.2.2.2.2.2.2.2.1, hHeld.2.2.2.2.2.2.2.2.2.2.2.2.2.2.2.2.2.2.2.2.2.2.2.2.2.2.2.2.1, hHeld.2.2.2.2.2.2.2.2.2.2.2.2.2.2.2.2.2.2.2.2.2.2.2.2.2.2.2.2.2.1, hHeld.2.2.2.2.2.2.2.2.2.2.2.2.2.2.2.2.2.2.2.2.2.2.2.2.2.2.2.2.2.2.1, hHeld.2.2.2.2.2.2.2.2.2.2.2.2.2.2.2.2.2.2.2.2.2.2.2.2.2.2.2.2.2.2.2.1, hHeld.2.2.2.2.2.2.2.2.2.2.2.2.2.2.2.2.2.2.2.2.2.2.2.2.2.2.2.2.2.2.2.2.1, hHeld.2.2.2.2.2.2.2.2.2.2.2.2.2.2.2.2.2.2.2.2.2.2.2.2.2.2.2.2.2.2.2.2.2.1, hHeld.2.2.2.2.2.2.2.2.2.2.2.2.2.2.2.2.2.2.2.2.2.2.2.2.2.2.2.2.2.2.2.2.2.2.1, hHeld.2.2.2.2.2.2.2.2.2.2.2.2.2.2.2.2.2.2.2.2.2.2.2.2.2.2.2.2.2.2.2.2.2.2.2.1, hHeld.2.2.2.2.2.2.2.2.2.2.2.2.2.2.2.2.2.2.2.2.2.2.2.2.2.2.2.2.2.2.2.2.2.2.2.2.1, hHeld.2.2.2.2.2.2.2.2.2.2.2.2.2.2.2.2.2.2.2.2.2.2.2.2.2.2.2.2.2.2.2.2.2.2.2.2.2.1, hHeld.2.2.2.2.2.2.2.2.2.2.2.2.2.2.2.2.2.2.2.2.2.2.2.2.2.2.2.2.2.2.2.2.2.2.2.2.2.2.1, hHeld.2.2.2.2.2.2.2.2.2.2.2.2.2.2.2.2.2.2.2.2.2.2.2.2.2.2.2.2.2.2.2.2.2.2.2.2.2.2.2.1, hHeld.2.2.2.2.2.2.2.2.2.2.2.2.2.2.2.2.2.2.2.2.2.2.2.2.2.2.2.2.2.2.2.2.2.2.2.2.2.2.2.2.1, hHeld.2.2.2.2.2.2.2.2.2.2.2.2.2.2.2.2.2.2.2.2.2.2.2.2.2.2.2.2.2.2.2.2.2.2.2.2.2.2.2.2.2.1, hHeld.2.2.2.2.2.2.2.2.2.2.2.2.2.2.2.2.2.2.2.2.2.2.2.2.2.2.2.2.2.2.2.2.2.2.2.2.2.2.2.2.2.2.1, hHeld.2.2.2.2.2.2.2.2.2.2.2.2.2.2.2.2.2.2.2.2.2.2.2.2.2.2.2.2.2.2.2.2.2.2.2.2.2.2.2.2.2.2.2.1, hHeld.2.2.2.2.2.2.2.2.2.2.2.2.2.2.2.2.2.2.2.2.2.2.2.2.2.2.2.2.2.2.2.2.2.2.2.2.2.2.2.2.2.2.2.2⟩ (fun hHeld => ?_)
         clear hK K
         refine norm_ (a' := ?_) ?_ ?_
         rotate_left
         ·show Act.put _ (some 139) _ = _
          simp only [Act.put, List.setIfInBounds_toArray, List.set_cons_zero, List.set_cons_succ, i64_w, i32_w]
          rfl
         refine pz_ 45 (some 140) ?_
         refine pz_ 46 (some 20) ?_
         refine done_ (done_of HT_.out (by kernel_rfl)) ?_
         try go_wp2
         (try (rw [drewN_self w63]; generalize hq_ : World.drewN w63 _ = w63; have n0_ : Aside0 (Kd.R k24 24 w63 w.heap.size (fun k_ => some k_ ≠ (.slice Ao61 t162.length co61 : Value).ownBlock ∧ some k_ ≠ (.slice Ao65 t166.length co65 : Value).ownBlock ∧ some k_ ≠ (v172 : Value).ownBlock ∧ some k_ ≠ (v176 : Value).ownBlock ∧ some k_ ≠ (v180 : Value).ownBlock ∧ some k_ ≠ (.slice Ao62 y197.length co62 : Value).ownBlock ∧ some k_ ≠ (.slice Ao66 y205.length co66 : Value).ownBlock ∧ k_ ≠ gb161) (.slice (some ad193) t150.length co39) t150) := ⟨by rw [← hq_]; exact (by (with_reducible repeat (first | apply Kd.R_alloc | apply Kd.R_drewN | apply Kd.R_drew)); exact Kd.R_mono HO152.out (fun _ hk => ⟨hk.1.1.1.1.1.1.2, ⟨hk.1.1.1.1.1.2, ⟨hk.1.1.1.1.2, ⟨hk.1.1.1.2, ⟨hk.1.1.2, ⟨hk.1.2, ⟨hk.2, hk.1.1.1.1.1.1.1.2⟩⟩⟩⟩⟩⟩⟩))⟩; have n1_ : Aside0 (Kd.R (Kd.int .i64) 3 w63 w.heap.size (fun k_ => some k_ ≠ (.slice Ao57 t157.length co57 : Value).ownBlock ∧ some k_ ≠ (.slice Ao54 y185.length co54 : Value).ownBlock ∧ some k_ ≠ (.slice Ao58 y189.length co58 : Value).ownBlock) (.slice Ao53 t153.length co53) t153) := ⟨by rw [← hq_]; exact (by (with_reducible repeat (first | apply Kd.R_alloc | apply Kd.R_drewN | apply Kd.R_drew)); exact Kd.R_mono HO156.out (fun _ hk => ⟨hk.1.1.2, ⟨hk.1.2, hk.2⟩⟩))⟩; have n2_ : Aside0 (Kd.R (Kd.int .i64) 3 w63 w.heap.size (fun k_ => some k_ ≠ (.slice Ao53 t153.length co53 : Value).ownBlock ∧ some k_ ≠ (.slice Ao54 y185.length co54 : Value).ownBlock ∧ some k_ ≠ (.slice Ao58 y189.length co58 : Value).ownBlock) (.slice Ao57 t157.length co57) t157) := ⟨by rw [← hq_]; exact (by (with_reducible repeat (first | apply Kd.R_alloc | apply Kd.R_drewN | apply Kd.R_drew)); exact Kd.R_mono HO160.out (fun _ hk => ⟨hk.1.1.2, ⟨hk.1.2, hk.2⟩⟩))⟩; have n3_ : Aside0 (Kd.R k24 24 w63 w.heap.size (fun k_ => some k_ ≠ (.slice (some ad193) t150.length co39 : Value).ownBlock ∧ some k_ ≠ (.slice Ao65 t166.length co65 : Value).ownBlock ∧ some k_ ≠ (v172 : Value).ownBlock ∧ some k_ ≠ (v176 : Value).ownBlock ∧ some k_ ≠ (v180 : Value).ownBlock ∧ some k_ ≠ (.slice Ao62 y197.length co62 : Value).ownBlock ∧ some k_ ≠ (.slice Ao66 y205.length co66 : Value).ownBlock ∧ k_ ≠ gb161) (.slice Ao61 t162.length co61) t162) := ⟨by rw [← hq_]; exact (by (with_reducible repeat (first | apply Kd.R_alloc | apply Kd.R_drewN | apply Kd.R_drew)); exact Kd.R_mono HO164.out (fun _ hk => ⟨hk.1.1.1.1.1.1.1.2, ⟨hk.1.1.1.1.1.2, ⟨hk.1.1.1.1.2, ⟨hk.1.1.1.2, ⟨hk.1.1.2, ⟨hk.1.2, ⟨hk.2, hk.1.1.1.1.1.1.2⟩⟩⟩⟩⟩⟩⟩))⟩; have n4_ : Aside0 (Kd.R k24 24 w63 w.heap.size (fun k_ => some k_ ≠ (.slice (some ad193) t150.length co39 : Value).ownBlock ∧ some k_ ≠ (.slice Ao61 t162.length co61 : Value).ownBlock ∧ some k_ ≠ (v172 : Value).ownBlock ∧ some k_ ≠ (v176 : Value).ownBlock ∧ some k_ ≠ (v180 : Value).ownBlock ∧ some k_ ≠ (.slice Ao62 y197.length co62 : Value).ownBlock ∧ some k_ ≠ (.slice Ao66 y205.length co66 : Value).ownBlock ∧ k_ ≠ gb161) (.slice Ao65 t166.length co65) t166) := ⟨by rw [← hq_]; exact (by (with_reducible repeat (first | apply Kd.R_alloc | apply Kd.R_drewN | apply Kd.R_drew)); exact Kd.R_mono HO169.out (fun _ hk => ⟨hk.1.1.1.1.1.1.1.2, ⟨hk.1.1.1.1.1.1.2, ⟨hk.1.1.1.1.2, ⟨hk.1.1.1.2, ⟨hk.1.1.2, ⟨hk.1.2, ⟨hk.2, hk.1.1.1.1.1.2⟩⟩⟩⟩⟩⟩⟩))⟩; have n5_ : Aside0 (Kd.R k24 24 w63 w.heap.size (fun k_ => some k_ ≠ (.slice (some ad193) t150.length co39 : Value).ownBlock ∧ some k_ ≠ (.slice Ao61 t162.length co61 : Value).ownBlock ∧ some k_ ≠ (.slice Ao65 t166.length co65 : Value).ownBlock ∧ some k_ ≠ (v176 : Value).ownBlock ∧ some k_ ≠ (v180 : Value).ownBlock ∧ some k_ ≠ (.slice Ao62 y197.length co62 : Value).ownBlock ∧ some k_ ≠ (.slice Ao66 y205.length co66 : Value).ownBlock ∧ k_ ≠ gb161) v172 t170) := ⟨by rw [← hq_]; exact (by (with_reducible repeat (first | apply Kd.R_alloc | apply Kd.R_drewN | apply Kd.R_drew)); exact Kd.R_mono HO173.out (fun _ hk => ⟨hk.1.1.1.1.1.1.1.2, ⟨hk.1.1.1.1.1.1.2, ⟨hk.1.1.1.1.1.2, ⟨hk.1.1.1.2, ⟨hk.1.1.2, ⟨hk.1.2, ⟨hk.2, hk.1.1.1.1.2⟩⟩⟩⟩⟩⟩⟩))⟩; have n6_ : Aside0 (Kd.R k24 24 w63 w.heap.size (fun k_ => some k_ ≠ (.slice (some ad193) t150.length co39 : Value).ownBlock ∧ some k_ ≠ (.slice Ao61 t162.length co61 : Value).ownBlock ∧ some k_ ≠ (.slice Ao65 t166.length co65 : Value).ownBlock ∧ some k_ ≠ (v172 : Value).ownBlock ∧ some k_ ≠ (v180 : Value).ownBlock ∧ some k_ ≠ (.slice Ao62 y197.length co62 : Value).ownBlock ∧ some k_ ≠ (.slice Ao66 y205.length co66 : Value).ownBlock ∧ k_ ≠ gb161) v176 t174) := ⟨by rw [← hq_]; exact (by (with_reducible repeat (first | apply Kd.R_alloc | apply Kd.R_drewN | apply Kd.R_drew)); exact Kd.R_mono HO177.out (fun _ hk => ⟨hk.1.1.1.1.1.1.1.2, ⟨hk.1.1.1.1.1.1.2, ⟨hk.1.1.1.1.1.2, ⟨hk.1.1.1.1.2, ⟨hk.1.1.2, ⟨hk.1.2, ⟨hk.2, hk.1.1.1.2⟩⟩⟩⟩⟩⟩⟩))⟩; have n7_ : Aside0 (Kd.R k24 24 w63 w.heap.size (fun k_ => some k_ ≠ (.slice (some ad193) t150.length co39 : Value).ownBlock ∧ some k_ ≠ (.slice Ao61 t162.length co61 : Value).ownBlock ∧ some k_ ≠ (.slice Ao65 t166.length co65 : Value).ownBlock ∧ some k_ ≠ (v172 : Value).ownBlock ∧ some k_ ≠ (v176 : Value).ownBlock ∧ some k_ ≠ (.slice Ao62 y197.length co62 : Value).ownBlock ∧ some k_ ≠ (.slice Ao66 y205.length co66 : Value).ownBlock ∧ k_ ≠ gb161) v180 t178) := ⟨by rw [← hq_]; exact (by (with_reducible repeat (first | apply Kd.R_alloc | apply Kd.R_drewN | apply Kd.R_drew)); exact Kd.R_mono HO181.out (fun _ hk => ⟨hk.1.1.1.1.1.1.1.2, ⟨hk.1.1.1.1.1.1.2, ⟨hk.1.1.1.1.1.2, ⟨hk.1.1.1.1.2, ⟨hk.1.1.1.2, ⟨hk.1.2, ⟨hk.2, hk.1.1.2⟩⟩⟩⟩⟩⟩⟩))⟩; have n8_ : Aside0 (Kd.R (Kd.int .i64) 3 w63 w.heap.size (fun k_ => some k_ ≠ (.slice Ao53 t153.length co53 : Value).ownBlock ∧ some k_ ≠ (.slice Ao57 t157.length co57 : Value).ownBlock ∧ some k_ ≠ (.slice Ao58 y189.length co58 : Value).ownBlock) (.slice Ao54 y185.length co54) y185) := ⟨by rw [← hq_]; exact (by (with_reducible repeat (first | apply Kd.R_alloc | apply Kd.R_drewN | apply Kd.R_drew)); exact Kd.R_mono HO187.out (fun _ hk => ⟨hk.1.1.2, ⟨hk.1.2, hk.2⟩⟩))⟩; have n9_ : Aside0 (Kd.R (Kd.int .i64) 3 w63 w.heap.size (fun k_ => some k_ ≠ (.slice Ao53 t153.length co53 : Value).ownBlock ∧ some k_ ≠ (.slice Ao57 t157.length co57 : Value).ownBlock ∧ some k_ ≠ (.slice Ao54 y185.length co54 : Value).ownBlock) (.slice Ao58 y189.length co58) y189) := ⟨by rw [← hq_]; exact (by (with_reducible repeat (first | apply Kd.R_alloc | apply Kd.R_drewN | apply Kd.R_drew)); exact Kd.R_mono HO191.out (fun _ hk => ⟨hk.1.1.2, ⟨hk.1.2, hk.2⟩⟩))⟩; have n10_ : Aside0 (Kd.R k24 24 w63 w.heap.size (fun k_ => some k_ ≠ (.slice (some ad193) t150.length co39 : Value).ownBlock ∧ some k_ ≠ (.slice Ao61 t162.length co61 : Value).ownBlock ∧ some k_ ≠ (.slice Ao65 t166.length co65 : Value).ownBlock ∧ some k_ ≠ (v172 : Value).ownBlock ∧ some k_ ≠ (v176 : Value).ownBlock ∧ some k_ ≠ (v180 : Value).ownBlock ∧ some k_ ≠ (.slice Ao66 y205.length co66 : Value).ownBlock ∧ k_ ≠ gb161) (.slice Ao62 y197.length co62) y197) := ⟨by rw [← hq_]; exact (by (with_reducible repeat (first | apply Kd.R_alloc | apply Kd.R_drewN | apply Kd.R_drew)); exact Kd.R_mono HO199.out (fun _ hk => ⟨hk.1.1.1.1.1.1.1.2, ⟨hk.1.1.1.1.1.1.2, ⟨hk.1.1.1.1.1.2, ⟨hk.1.1.1.1.2, ⟨hk.1.1.1.2, ⟨hk.1.1.2, ⟨hk.2, hk.1.2⟩⟩⟩⟩⟩⟩⟩))⟩; have n11_ : Aside0 (Kd.R k24 24 w63 w.heap.size (fun k_ => some k_ ≠ (.slice (some ad193) t150.length co39 : Value).ownBlock ∧ some k_ ≠ (.slice Ao61 t162.length co61 : Value).ownBlock ∧ some k_ ≠ (.slice Ao65 t166.length co65 : Value).ownBlock ∧ some k_ ≠ (v172 : Value).ownBlock ∧ some k_ ≠ (v176 : Value).ownBlock ∧ some k_ ≠ (v180 : Value).ownBlock ∧ some k_ ≠ (.slice Ao62 y197.length co62 : Value).ownBlock ∧ k_ ≠ gb161) (.slice Ao66 y205.length co66) y205) := ⟨by rw [← hq_]; exact (by (with_reducible repeat (first | apply Kd.R_alloc | apply Kd.R_drewN | apply Kd.R_drew)); exact Kd.R_mono HO207.out (fun _ hk => ⟨hk.1.1.1.1.1.1.1.2, ⟨hk.1.1.1.1.1.1.2, ⟨hk.1.1.1.1.1.2, ⟨hk.1.1.1.1.2, ⟨hk.1.1.1.2, ⟨hk.1.1.2, ⟨hk.1.2, hk.2⟩⟩⟩⟩⟩⟩⟩))⟩; have n12_ : Aside0 (w63.heap[gb161]? = some (.cells #[.int .i64 5, .int .i64 1, .int .i64 10, .int .i64 0, .string (⟨#[]⟩ : ByteArray)] 24 (0, 0))) := ⟨by rw [← hq_]; exact z14_⟩; have n13_ : Aside0 (Below w.heap.size w w63) := ⟨by rw [← hq_]; exact z8_⟩; clear HO152 HO156 HO160 HO164 HO169 HO173 HO177 HO181 HO187 HO191 HO199 HO207 BK161 HB hq_; have HO152 := n0_; have HO156 := n1_; have HO160 := n2_; have HO164 := n3_; have HO169 := n4_; have HO173 := n5_; have HO177 := n6_; have HO181 := n7_; have HO187 := n8_; have HO191 := n9_; have HO199 := n10_; have HO207 := n11_; have BK161 := n12_; have HB := n13_; clear n0_ n1_ n2_ n3_ n4_ n5_ n6_ n7_ n8_ n9_ n10_ n11_ n12_ n13_))
         have n0_ := Aside0.mk (Kd.R_drew HO152.out)
         have n1_ := Aside0.mk (Kd.R_drew HO156.out)
         have n2_ := Aside0.mk (Kd.R_drew HO160.out)
         have n3_ := Aside0.mk (Kd.R_drew HO164.out)
         have n4_ := Aside0.mk (Kd.R_drew HO169.out)
         have n5_ := Aside0.mk (Kd.R_drew HO173.out)
         have n6_ := Aside0.mk (Kd.R_drew HO177.out)
         have n7_ := Aside0.mk (Kd.R_drew HO181.out)
         have n8_ := Aside0.mk (Kd.R_drew HO187.out)
         have n9_ := Aside0.mk (Kd.R_drew HO191.out)
         have n10_ := Aside0.mk (Kd.R_drew HO199.out)
         have n11_ := Aside0.mk (Kd.R_drew HO207.out)
         have n12_ := Aside0.mk (blk_drew BK161.out)
         have n13_ := Aside0.mk (below_drew1 HB.out)
         clear HO152
         clear HO156
         clear HO160
         clear HO164
         clear HO169
         clear HO173
         clear HO177
         clear HO181
         clear HO187
         clear HO191
         clear HO199
         clear HO207
         clear BK161
         clear HB
         have HO152 := n0_
         have HO156 := n1_
         have HO160 := n2_
         have HO164 := n3_
         have HO169 := n4_
         have HO173 := n5_
         have HO177 := n6_
         have HO181 := n7_
         have HO187 := n8_
         have HO191 := n9_
         have HO199 := n10_
         have HO207 := n11_
         have BK161 := n12_
         have HB := n13_
         clear n0_ n1_ n2_ n3_ n4_ n5_ n6_ n7_ n8_ n9_ n10_ n11_ n12_ n13_
         have p209 : 0 ≤ (0 : Int) := (by omega)
         have q209 : 0 < (t150.length : Int) := of_decide_eq_true z4_
         obtain ⟨ad209, e209, hx209_0, hx209_1, hx209_2, hx209_3, hx209_4⟩ := at_T24 (Kd.R_reads' HO152.out).2.2 0 p209 q209
         obtain rfl : ad193 = ad209 := (by injection e209)
         have qi209 : (0 < t150.length) = True := eq_true (by omega)
         (try simp only [show ((0 : Int)).toNat = 0 from rfl, show 0 * 5 = 0 from rfl, Addr.add_zero'] at hx209_0 hx209_1 hx209_2 hx209_3 hx209_4)
         replace p209 := eq_true p209
         replace q209 := eq_true q209
         have p210 : 0 ≤ (3 : Int) := (by omega)
         have q210 : 3 < (t150.length : Int) := of_decide_eq_true z4_
         obtain ⟨ad210, e210, hx210_0, hx210_1, hx210_2, hx210_3, hx210_4⟩ := at_T24 (Kd.R_reads' HO152.out).2.2 3 p210 q210
         obtain rfl : ad193 = ad210 := (by injection e210)
         (try simp only [show (3 : Int).toNat = 3 from rfl, Nat.reduceMul, Nat.reduceEqDiff, Go.Addr.add, ↓reduceIte] at hx210_0)
         (try simp only [show (3 : Int).toNat = 3 from rfl, Nat.reduceMul, Nat.reduceEqDiff, Go.Addr.add, ↓reduceIte] at hx210_1)
         (try simp only [show (3 : Int).toNat = 3 from rfl, Nat.reduceMul, Nat.reduceEqDiff, Go.Addr.add, ↓reduceIte] at hx210_2)
         (try simp only [show (3 : Int).toNat = 3 from rfl, Nat.reduceMul, Nat.reduceEqDiff, Go.Addr.add, ↓reduceIte] at hx210_3)
         (try simp only [show (3 : Int).toNat = 3 from rfl, Nat.reduceMul, Nat.reduceEqDiff, Go.Addr.add, ↓reduceIte] at hx210_4)
         have qi210 : (3 < t150.length) = True := eq_true (by omega)
         (try simp only [show ((3 : Int)).toNat = 3 from rfl, show 3 * 5 = 15 from rfl] at hx210_0 hx210_1 hx210_2 hx210_3 hx210_4)
         replace p210 := eq_true p210
         replace q210 := eq_true q210
         refine start_ (n := 30) (S := fun w' => w'.cell? ad193 = some (.int .i64 ((rd_T24 t150 0).f0)) ∧ w'.cell? ⟨ad193.block, ad193.off + 1, none⟩ = some (.int .i64 ((rd_T24 t150 0).f1)) ∧ w'.cell? ⟨ad193.block, ad193.off + 2, none⟩ = some (.int .i64 ((rd_T24 t150 0).f2)) ∧ w'.cell? ⟨ad193.block, ad193.off + 3, none⟩ = some (.int .i64 ((rd_T24 t150 0).f3)) ∧ w'.cell? ⟨ad193.block, ad193.off + 4, none⟩ = some (.string ((rd_T24 t150 0).f4)) ∧ w'.cell? ⟨ad193.block, ad193.off + 15, none⟩ = some (.int .i64 ((rd_T24 t150 3).f0)) ∧ w'.cell? ⟨ad193.block, ad193.off + 15 + 1, none⟩ = some (.int .i64 ((rd_T24 t150 3).f1)) ∧ w'.cell? ⟨ad193.block, ad193.off + 15 + 2, none⟩ = some (.int .i64 ((rd_T24 t150 3).f2)) ∧ w'.cell? ⟨ad193.block, ad193.off + 15 + 3, none⟩ = some (.int .i64 ((rd_T24 t150 3).f3)) ∧ w'.cell? ⟨ad193.block, ad193.off + 15 + 4, none⟩ = some (.string ((rd_T24 t150 3).f4))) (ds := []) #[false, false, false, false, false, false, false, false, false, false, false, false, false, false, false, false, false, false, false, false, false, false, false, false, false, false, false, false, false, false] (by kernel_rfl) rfl rfl ⟨hx209_0, hx209_1, hx209_2, hx209_3, hx209_4, hx210_0, hx210_1, hx210_2, hx210_3, hx210_4⟩ (fun hHeld => ?_); refine with_tabW formelaw10_head.tab13 formelaw10_head.bits13 (fun HT_ HW_ => ?_)
         generalize w63.drew = w67 at HO152 HO156 HO160 HO164 HO169 HO173 HO177 HO181 HO187 HO191 HO199 HO207 BK161 HB hx209_0 hx209_1 hx209_2 hx209_3 hx209_4 hx210_0 hx210_1 hx210_2 hx210_3 hx210_4 hHeld ⊢
         refine pz_ 0 (some 141) ?_
         refine pz_ 1 (some 142) ?_
         refine pz_ 2 (some 143) ?_
         refine pz_ 3 (some 144) ?_
         refine pz_ 4 (some 145) ?_
         refine pz_ 6 (some 147) ?_
         refine pz_ 7 (some 148) ?_
         refine tz_ 5 (some 146) hHeld ?_
         refine tz_ 8 (some 149) hHeld ?_
         refine oz_ 9 (some 150) (fun K hK => ?_)
         refine Kd.R_lit_step k24 _ 24 ?hg (N := 150) ?hd (xs := ([(⟨(rd_T24 t150 0).f0, (rd_T24 t150 0).f1, (rd_T24 t150 0).f2, (rd_T24 t150 0).f3, (rd_T24 t150 0).f4⟩ : S24), (⟨(rd_T24 t150 3).f0, (rd_T24 t150 3).f1, (rd_T24 t150 3).f2, (rd_T24 t150 3).f3, (rd_T24 t150 3).f4⟩ : S24)] : List (S24))) (inner := [.int .i64 ((rd_T24 t150 0).f0), .int .i64 ((rd_T24 t150 0).f1), .int .i64 ((rd_T24 t150 0).f2), .int .i64 ((rd_T24 t150 0).f3), .string ((rd_T24 t150 0).f4), .int .i64 ((rd_T24 t150 3).f0), .int .i64 ((rd_T24 t150 3).f1), .int .i64 ((rd_T24 t150 3).f2), .int .i64 ((rd_T24 t150 3).f3), .string ((rd_T24 t150 3).f4)]) (ok := fun _ => True) (okp := fun _ => True) ?hr ?hp (fun _ hk => hk) trivial (Below.refl _ _) (Nat.le_refl _) (by simp) ?_; (case hd => rfl); (case hg => rfl); (case hr => exact z13_); (case hp => exact (Reps.c5 (show Kd.M k24 _ _ _ (⟨(rd_T24 t150 0).f0, (rd_T24 t150 0).f1, (rd_T24 t150 0).f2, (rd_T24 t150 0).f3, (rd_T24 t150 0).f4⟩ : S24) [.int .i64 ((rd_T24 t150 0).f0), .int .i64 ((rd_T24 t150 0).f1), .int .i64 ((rd_T24 t150 0).f2), .int .i64 ((rd_T24 t150 0).f3), .string ((rd_T24 t150 0).f4)] from (k24_mkM _ _ _ (⟨(rd_T24 t150 0).f0, (rd_T24 t150 0).f1, (rd_T24 t150 0).f2, (rd_T24 t150 0).f3, (rd_T24 t150 0).f4⟩ : S24) )) (Reps.c5 (show Kd.M k24 _ _ _ (⟨(rd_T24 t150 3).f0, (rd_T24 t150 3).f1, (rd_T24 t150 3).f2, (rd_T24 t150 3).f3, (rd_T24 t150 3).f4⟩ : S24) [.int .i64 ((rd_T24 t150 3).f0), .int .i64 ((rd_T24 t150 3).f1), .int .i64 ((rd_T24 t150 3).f2), .int .i64 ((rd_T24 t150 3).f3), .string ((rd_T24 t150 3).f4)] from (k24_mkM _ _ _ (⟨(rd_T24 t150 3).f0, (rd_T24 t150 3).f1, (rd_T24 t150 3).f2, (rd_T24 t150 3).f3, (rd_T24 t150 3).f4⟩ : S24) )) (Reps.none _ _))))
         intro v212 w68 ho69 hb hg_ hnew_
         have HS0_ := hbc_ hb hHeld.1
         have HS1_ := hbc_ hb hHeld.2.1
         have HS2_ := hbc_ hb hHeld.2.2.1
         have HS3_ := hbc_ hb hHeld.2.2.2.1
         have HS4_ := hbc_ hb hHeld.2.2.2.2.1
         have HS5_ := hbc_ hb hHeld.2.2.2.2.2.1
         have HS6_ := hbc_ hb hHeld.2.2.2.2.2.2.1
         have HS7_ := hbc_ hb hHeld.2.2.2.2.2.2.2.1
         have HS8_ := hbc_ hb hHeld.2.2.2.2.2.2.2.2.1
         have HS9_ := hbc_ hb hHeld.2.2.2.2.2.2.2.2.2
         clear hg_ hnew_
         (first | rw [← Ny211.out] at ho69 | (simp only [Int.reduceToNat] at ho69; rw [← Ny211.out] at ho69))
         have n0_ := Aside0.mk (Kd.R_elder' z15_ (Kd.R_base ho69) hb)
         have n1_ := Aside0.mk (Kd.R_below z20_ hb)
         have n2_ := Aside0.mk (Kd.R_below z23_ hb)
         have n3_ := Aside0.mk (Kd.R_elder' z18_ (Kd.R_base ho69) hb)
         have n4_ := Aside0.mk (Kd.R_elder' z21_ (Kd.R_base ho69) hb)
         have n5_ := Aside0.mk (Kd.R_elder' z24_ (Kd.R_base ho69) hb)
         have n6_ := Aside0.mk (Kd.R_elder' z28_ (Kd.R_base ho69) hb)
         have n7_ := Aside0.mk (Kd.R_elder' z31_ (Kd.R_base ho69) hb)
         have n8_ := Aside0.mk (Kd.R_below z42_ hb)
         have n9_ := Aside0.mk (Kd.R_below z53_ hb)
         have n10_ := Aside0.mk (Kd.R_elder' z45_ (Kd.R_base ho69) hb)
         have n11_ := Aside0.mk (Kd.R_elder' z58_ (Kd.R_base ho69) hb)
         have n12_ := Aside0.mk (Kd.R_lower (Kd.R_newB (Kd.R_new' (Kd.R_new' (Kd.R_new' (Kd.R_new' (Kd.R_new' (Kd.R_new' (Kd.R_new' (Kd.R_new' ho69 (Kd.R_lt z15_)) (Kd.R_lt z18_)) (Kd.R_lt z21_)) (Kd.R_lt z24_)) (Kd.R_lt z28_)) (Kd.R_lt z31_)) (Kd.R_lt z45_)) (Kd.R_lt z58_)) (g := gb161) (o := .cells #[.int .i64 5, .int .i64 1, .int .i64 10, .int .i64 0, .string (⟨#[]⟩ : ByteArray)] 24 (0, 0)) z14_) (below_size z8_))
         have n13_ := Aside0.mk (blk_below (g := gb161) (o := .cells #[.int .i64 5, .int .i64 1, .int .i64 10, .int .i64 0, .string (⟨#[]⟩ : ByteArray)] 24 (0, 0)) z14_ hb)
         have n14_ := Aside0.mk (below_step z8_ hb)
         clear HO152
         clear HO156
         clear HO160
         clear HO164
         clear HO169
         clear HO173
         clear HO177
         clear HO181
         clear HO187
         clear HO191
         clear HO199
         clear HO207
         clear BK161
         clear HB
         have HO152 := n0_
         have HO156 := n1_
         have HO160 := n2_
         have HO164 := n3_
         have HO169 := n4_
         have HO173 := n5_
         have HO177 := n6_
         have HO181 := n7_
         have HO187 := n8_
         have HO191 := n9_
         have HO199 := n10_
         have HO207 := n11_
         have HO213 := n12_
         have BK161 := n13_
         have HB := n14_
         clear n0_ n1_ n2_ n3_ n4_ n5_ n6_ n7_ n8_ n9_ n10_ n11_ n12_ n13_ n14_
         clear hb ho69
         obtain ⟨Ao70, co70, eo70⟩ := Kd.R_slice HO181.out
         (first | subst eo70 | (injection eo70 with f1_ f2_ f3_; have f4_ := f1_.symm; have f5_ := f3_.symm; clear f1_ f2_ f3_; subst f4_; subst f5_))
         obtain ⟨Ao71, co71, eo71⟩ := Kd.R_slice HO213.out
         (first | subst eo71 | (injection eo71 with f1_ f2_ f3_; have f4_ := f1_.symm; have f5_ := f3_.symm; clear f1_ f2_ f3_; subst f4_; subst f5_))
         refine hK.out _ _ ⟨HS0_, HS1_, HS2_, HS3_, HS4_, HS5_, HS6_, HS7_, HS8_, HS9_⟩ (fun hHeld => ?_)
         clear hK K
         refine norm_ (a' := ?_) ?_ ?_
         rotate_left
         ·show Act.put _ (some 150) _ = _
          simp only [Act.put, List.setIfInBounds_toArray, List.set_cons_zero, List.set_cons_succ, i64_w, i32_w]
          rfl
         refine oz_ 10 (some 151) (fun K hK => ?_)
         refine goes_ Try.func22 (by kernel_rfl) rfl #[.slice Ao70 t178.length co70, .slice Ao71 y211.length co71] (by rfl) rfl rfl z2_ ?_
         with_reducible refine (formeref10_Same.calls k _ _ t178 _ _ y211 true _ ?side1 ?side2 ?side3 ?side4 A30.out).mono ?_
         (case side1 => repeat (first | exact (Kd.R_reads' HO181.out).2.2 | (with_reducible refine Kd.C_alloc ?_ _) | (with_reducible refine Kd.C_drewN ?_ _) | (with_reducible refine Kd.C_drew ?_)))
         (case side2 => exact (Kd.R_reads' HO181.out).2.1)
         (case side3 => repeat (first | exact (Kd.R_reads' HO213.out).2.2 | (with_reducible refine Kd.C_alloc ?_ _) | (with_reducible refine Kd.C_drewN ?_ _) | (with_reducible refine Kd.C_drew ?_)))
         (case side4 => exact (Kd.R_reads' HO213.out).2.1)
         rintro e w' ⟨rfl, ⟨nd, rfl⟩⟩
         refine ⟨_, rfl, ?_⟩
         refine hK.out _ _ ⟨hHeld.1, hHeld.2.1, hHeld.2.2.1, hHeld.2.2.2.1, hHeld.2.2.2.2.1, hHeld.2.2.2.2.2.1, hHeld.2.2.2.2.2.2.1, hHeld.2.2.2.2.2.2.2.1, hHeld.2.2.2.2.2.2.2.2.1, hHeld.2.2.2.2.2.2.2.2.2⟩ (fun hHeld => ?_)
         clear hK K
         refine norm_ (a' := ?_) ?_ ?_
         rotate_left
         ·show Act.put _ (some 151) _ = _
          simp only [Act.put, List.setIfInBounds_toArray, List.set_cons_zero, List.set_cons_succ, i64_w, i32_w]
          rfl
         refine pz_ 11 (some 152) ?_
         refine pz_ 12 (some 153) ?_
         refine pz_ 13 (some 154) ?_
         refine pz_ 14 (some 155) ?_
         refine pz_ 15 (some 156) ?_
         refine pz_ 16 (some 157) ?_
         refine pz_ 17 (some 158) ?_
         refine pz_ 18 (some 159) ?_
         refine pz_ 19 (some 160) ?_
         refine pz_ 20 (some 161) ?_
         refine oz_ 21 (some 162) (fun K hK => ?_)
         refine goes_ Try.func13 (by kernel_rfl) rfl #[.slice (some ad193) t150.length co39] (by rfl) rfl rfl z2_ ?_
         with_reducible refine (tree_Valid.calls _ _ t150 true _ ?side1 ?side2 A34.out).mono ?_
         (case side1 => exact z27_)
         (case side2 => exact z61_)
         rintro e w72 ⟨rfl, hb⟩
         have HS0_ := hbc_ hb hHeld.1
         have HS1_ := hbc_ hb hHeld.2.1
         have HS2_ := hbc_ hb hHeld.2.2.1
         have HS3_ := hbc_ hb hHeld.2.2.2.1
         have HS4_ := hbc_ hb hHeld.2.2.2.2.1
         have HS5_ := hbc_ hb hHeld.2.2.2.2.2.1
         have HS6_ := hbc_ hb hHeld.2.2.2.2.2.2.1
         have HS7_ := hbc_ hb hHeld.2.2.2.2.2.2.2.1
         have HS8_ := hbc_ hb hHeld.2.2.2.2.2.2.2.2.1
         have HS9_ := hbc_ hb hHeld.2.2.2.2.2.2.2.2.2
         refine ⟨_, rfl, ?_⟩
         have n0_ := Aside0.mk (Kd.R_below z15_ hb)
         have n1_ := Aside0.mk (Kd.R_below z20_ hb)
         have n2_ := Aside0.mk (Kd.R_below z23_ hb)
         have n3_ := Aside0.mk (Kd.R_below z18_ hb)
         have n4_ := Aside0.mk (Kd.R_below z21_ hb)
         have n5_ := Aside0.mk (Kd.R_below z24_ hb)
         have n6_ := Aside0.mk (Kd.R_below z28_ hb)
         have n7_ := Aside0.mk (Kd.R_below z31_ hb)
         have n8_ := Aside0.mk (Kd.R_below z42_ hb)
         have n9_ := Aside0.mk (Kd.R_below z53_ hb)
         have n10_ := Aside0.mk (Kd.R_below z45_ hb)
         have n11_ := Aside0.mk (Kd.R_below z58_ hb)
         have n12_ := Aside0.mk (Kd.R_below (by (with_reducible repeat (first | apply Kd.R_alloc | apply Kd.R_drewN | apply Kd.R_drew)); exact HO213.out) hb)
         have n13_ := Aside0.mk (blk_below (g := gb161) (o := .cells #[.int .i64 5, .int .i64 1, .int .i64 10, .int .i64 0, .string (⟨#[]⟩ : ByteArray)] 24 (0, 0)) z14_ hb)
         have n14_ := Aside0.mk (below_step z8_ hb)
         clear HO152
         clear HO156
         clear HO160
         clear HO164
         clear HO169
         clear HO173
         clear HO177
         clear HO181
         clear HO187
         clear HO191
         clear HO199
         clear HO207
         clear HO213
         clear BK161
         clear HB
         have HO152 := n0_
         have HO156 := n1_
         have HO160 := n2_
         have HO164 := n3_
         have HO169 := n4_
         have HO173 := n5_
         have HO177 := n6_
         have HO181 := n7_
         have HO187 := n8_
         have HO191 := n9_
         have HO199 := n10_
         have HO207 := n11_
         have HO213 := n12_
         have BK161 := n13_
         have HB := n14_
         clear n0_ n1_ n2_ n3_ n4_ n5_ n6_ n7_ n8_ n9_ n10_ n11_ n12_ n13_ n14_
         (try clear hb)
         (try clear hb2)
         (try clear hk)
         (try clear hi)
         have q73 : (1 : Int) ≤ ((t150.length : Int) : Int) := of_decide_eq_true z4_
         obtain ⟨i073, hi073, _, hsz73, _⟩ := info_parts info24
         have hroom73 : t150.length ≤ co39 := (Kd.R_reads' HO152.out).2.1
         have hC73 : Kd.C k24 _ (some ad193) t150.length t150 := (Kd.R_reads' HO152.out).2.2
         have hcut73 := cut_from (P := Try.prog) 22 24 .i64 Try.underlying22 hi073 5 hsz73 (some ad193) t150.length co39 1 (by omega) q73
         have hr73 := Kd.C_drop (m := (1 : Int).toNat) (c := co39) hC73 (by omega) hroom73
         obtain ⟨A73, hA73⟩ : ∃ A1, A1 = (if co39 = (1 : Int).toNat then (some ad193) else ((some ad193) : Option Addr).map (·.add ((1 : Int).toNat * 5))) := ⟨_, rfl⟩
         obtain ⟨c73, hc73⟩ : ∃ c1, c1 = co39 - (1 : Int).toNat := ⟨_, rfl⟩
         have hy73 : y216.length = t150.length - (1 : Int).toNat := (by rw [Ny216.out, List.length_drop] <;> omega)
         rw [show (t150).drop (1 : Int).toNat = y216 from Ny216.out.symm] at hr73
         replace hr73 : Kd.C k24 _ A73 y216.length y216 := (by rw [hA73]; exact hr73)
         rw [← hy73, ← hA73, ← hc73] at hcut73
         have HR219 := Aside0.mk hr73
         have HC219 := Aside0.mk (show y216.length ≤ c73 from by rw [hy73, hc73]; exact Nat.sub_le_sub_right hroom73 _)
         clear hr73 hC73 hroom73 hi073 hsz73 hc73
         have KY73 := Aside0.mk hy73
         have KA73 := Aside0.mk hA73
         clear hy73 hA73
         have KL73 := Aside0.mk (show 1 ≤ t150.length from by omega)
         replace q73 := eq_true q73
         refine hK.out _ _ ⟨HS0_, HS1_, HS2_, HS3_, HS4_, HS5_, HS6_, HS7_, HS8_, HS9_⟩ (fun hHeld => ?_)
         clear hK K
         refine norm_ (a' := ?_) ?_ ?_
         rotate_left
         ·show Act.put _ (some 162) _ = _
          simp only [Act.put, List.setIfInBounds_toArray, List.set_cons_zero, List.set_cons_succ, i64_w, i32_w]
          rfl
         refine pz_ 22 (some 163) ?_
         refine pz_ 23 (some 164) ?_
         refine pz_ 24 (some 165) ?_
         refine pz_ 25 (some 166) ?_
         refine oz_ 26 (some 167) (fun K hK => ?_)
         refine goes_ Try.func13 (by kernel_rfl) rfl #[.slice A73 y216.length c73] (by rfl) rfl rfl z2_ ?_
         with_reducible refine (tree_Valid.calls _ _ y216 t220 _ ?side1 ?side2 A37.out).mono ?_
         (case side1 => repeat (first | exact (by repeat (first | (with_reducible exact HR219.out) | (with_reducible refine Kd.C_alloc ?_ _) | (with_reducible refine Kd.C_drewN ?_ _) | (with_reducible refine Kd.C_drew ?_) | exact HR219.out)) | (with_reducible refine Kd.C_alloc ?_ _) | (with_reducible refine Kd.C_drewN ?_ _) | (with_reducible refine Kd.C_drew ?_)))
         (case side2 => exact HC219.out)
         rintro e w74 ⟨rfl, hb⟩
         have HS0_ := hbc_ hb hHeld.1
         have HS1_ := hbc_ hb hHeld.2.1
         have HS2_ := hbc_ hb hHeld.2.2.1
         have HS3_ := hbc_ hb hHeld.2.2.2.1
         have HS4_ := hbc_ hb hHeld.2.2.2.2.1
         have HS5_ := hbc_ hb hHeld.2.2.2.2.2.1
         have HS6_ := hbc_ hb hHeld.2.2.2.2.2.2.1
         have HS7_ := hbc_ hb hHeld.2.2.2.2.2.2.2.1
         have HS8_ := hbc_ hb hHeld.2.2.2.2.2.2.2.2.1
         have HS9_ := hbc_ hb hHeld.2.2.2.2.2.2.2.2.2
         refine ⟨_, rfl, ?_⟩
         have n0_ := Aside0.mk (Kd.R_below z15_ hb)
         have n1_ := Aside0.mk (Kd.R_below z20_ hb)
         have n2_ := Aside0.mk (Kd.R_below z23_ hb)
         have n3_ := Aside0.mk (Kd.R_below z18_ hb)
         have n4_ := Aside0.mk (Kd.R_below z21_ hb)
         have n5_ := Aside0.mk (Kd.R_below z24_ hb)
         have n6_ := Aside0.mk (Kd.R_below z28_ hb)
         have n7_ := Aside0.mk (Kd.R_below z31_ hb)
         have n8_ := Aside0.mk (Kd.R_below z42_ hb)
         have n9_ := Aside0.mk (Kd.R_below z53_ hb)
         have n10_ := Aside0.mk (Kd.R_below z45_ hb)
         have n11_ := Aside0.mk (Kd.R_below z58_ hb)
         have n12_ := Aside0.mk (Kd.R_below (by (with_reducible repeat (first | apply Kd.R_alloc | apply Kd.R_drewN | apply Kd.R_drew)); exact HO213.out) hb)
         have n13_ := Aside0.mk (blk_below (g := gb161) (o := .cells #[.int .i64 5, .int .i64 1, .int .i64 10, .int .i64 0, .string (⟨#[]⟩ : ByteArray)] 24 (0, 0)) z14_ hb)
         have n14_ := Aside0.mk (Kd.C_below (by repeat (first | (with_reducible exact HR219.out) | (with_reducible refine Kd.C_alloc ?_ _) | (with_reducible refine Kd.C_drewN ?_ _) | (with_reducible refine Kd.C_drew ?_) | exact HR219.out)) hb)
         have n15_ := Aside0.mk (below_step z8_ hb)
         clear HO152
         clear HO156
         clear HO160
         clear HO164
         clear HO169
         clear HO173
         clear HO177
         clear HO181
         clear HO187
         clear HO191
         clear HO199
         clear HO207
         clear HO213
         clear BK161
         clear HR219
         clear HB
         have HO152 := n0_
         have HO156 := n1_
         have HO160 := n2_
         have HO164 := n3_
         have HO169 := n4_
         have HO173 := n5_
         have HO177 := n6_
         have HO181 := n7_
         have HO187 := n8_
         have HO191 := n9_
         have HO199 := n10_
         have HO207 := n11_
         have HO213 := n12_
         have BK161 := n13_
         have HR219 := n14_
         have HB := n15_
         clear n0_ n1_ n2_ n3_ n4_ n5_ n6_ n7_ n8_ n9_ n10_ n11_ n12_ n13_ n14_ n15_
         (try clear hb)
         (try clear hb2)
         (try clear hk)
         (try clear hi)
         refine hK.out _ _ ⟨HS0_, HS1_, HS2_, HS3_, HS4_, HS5_, HS6_, HS7_, HS8_, HS9_⟩ (fun hHeld => ?_)
         clear hK K
         refine norm_ (a' := ?_) ?_ ?_
         rotate_left
         ·show Act.put _ (some 167) _ = _
          simp only [Act.put, List.setIfInBounds_toArray, List.set_cons_zero, List.set_cons_succ, i64_w, i32_w]
          rfl
         refine pz_ 27 (some 168) ?_
         refine pz_ 28 (some 169) ?_
         refine pz_ 29 (some 0) ?_
         refine done_ (done_of HT_.out (by kernel_rfl)) ?_
         try go_wp2
         go_ret
         exact ⟨by first | rfl | (simp [errW_none, errW_some] <;> rfl) | (simp [*, errW_none, errW_some] <;> rfl), by repeat (first | (with_reducible first | exact HB.out | apply below_alloc | apply pw_below_drewN | apply below_drew1 | refine below_set ?_ GE161.out) | exact HB.out)⟩
        ·replace c35 := Bool.eq_false_iff.mpr c35
         subst c35
         have H1 : (none) = some r := by rw [if_neg (show ¬ (false = true) by decide)] at H; exact H
         clear H
         have H := H1
         clear H1
         exact absurd H (by simp)
       ·replace c33 := Bool.eq_false_iff.mpr c33
        subst c33
        have H1 : (none) = some r := by rw [if_neg (show ¬ (false = true) by decide)] at H; exact H
        clear H
        have H := H1
        clear H1
        exact absurd H (by simp)
      ·replace c31 := Bool.eq_false_iff.mpr c31
       subst c31
       have H1 : (none) = some r := by rw [if_neg (show ¬ (false = true) by decide)] at H; exact H
       clear H
       have H := H1
       clear H1
       exact absurd H (by simp)
     ·replace c29 := Bool.eq_false_iff.mpr c29
      subst c29
      have H1 : (none) = some r := by rw [if_neg (show ¬ (false = true) by decide)] at H; exact H
      clear H
      have H := H1
      clear H1
      exact absurd H (by simp)
    ·replace c27 := Bool.eq_false_iff.mpr c27
     subst c27
     have H1 : (none) = some r := by rw [if_neg (show ¬ (false = true) by decide)] at H; exact H
     clear H
     have H := H1
     clear H1
     exact absurd H (by simp)
   ·replace c21 := Bool.eq_false_iff.mpr c21
    subst c21
    have H1 : (none) = some r := by rw [if_neg (show ¬ (false = true) by decide)] at H; exact H
    clear H
    have H := H1
    clear H1
    exact absurd H (by simp)
  ·replace c19 := Bool.eq_false_iff.mpr c19
   subst c19
   have H1 : (none) = some r := by rw [if_neg (show ¬ (false = true) by decide)] at H; exact H
   clear H
   have H := H1
   clear H1
   exact absurd H (by simp)
 ·rw [if_neg c10] at H
  exact absurd H (by simp)
end Go.Proofs.Ytpafhhgoldenoaa.P
end
section
namespace Go.Proofs.Ytpafhhgoldenoaa.P
open Go.RowKit Go.Proofs.YtpafhhgoldenoaaW.PrintWords Go.Proofs.YtpafhhgoldenoaaW.PrintLast Go.Proofs.YtpafhhgoldenoaaW.PrintMore
attribute [local go_sem] max2_int min2_int max_two min_two max_three min_three max_four min_four
set_option linter.unusedVariables false
set_option linter.unusedSimpArgs false
def formelaw10_few.f (l0 : List (S24)) : Option (Bool) := some (decide ((l0.length : Int) ≤ 60))
set_option maxHeartbeats 8000000 in
set_option maxRecDepth 100000 in
theorem formelaw10_few.calls (A0 : Option Addr) (c0 : Nat) (l0 : List (S24)) (r : Bool) (w : World) (hr0 : Kd.C k24 w A0 l0.length l0) (hc0 : l0.length ≤ c0) (h : formelaw10_few.f l0 = some r) :
  Calls Try.prog 10 #[.slice A0 l0.length c0] w fun e w' => e = .returned (.bool r) ∧ Drawn0 w w' := by
 have HR0 := Aside0.mk hr0
 have HC0 := Aside0.mk hc0
 clear hr0 hc0
 have H : (some (decide ((l0.length : Int) ≤ 60))) = some r := h
 clear h
 obtain rfl := Option.some.inj H
 go_enter Try.func10, Try.ntmps10
 go_wp2
 go_ret
 exact ⟨by first | rfl | (simp; done) | (simp [*]; done), by repeat (first | exact Drawn0.refl _ | apply Drawn0.step)⟩
end Go.Proofs.Ytpafhhgoldenoaa.P
end
section
namespace Go.Proofs.Ytpafhhgoldenoaa.P
open Go.RowKit Go.Proofs.YtpafhhgoldenoaaW.PrintWords Go.Proofs.YtpafhhgoldenoaaW.PrintLast Go.Proofs.YtpafhhgoldenoaaW.PrintMore
attribute [local go_sem] max2_int min2_int max_two min_two max_three min_three max_four min_four
set_option linter.unusedVariables false
set_option linter.unusedSimpArgs false
def formelaw10_usable.f (k : Nat) (l0 : List (S24)) : Option (Bool) := (formelaw10_few.f l0).bind fun t465 => (if t465 = true then ((formeref10_Valid.f k l0).bind fun t466 => (some t466)) else (some false))
theorem formelaw10_usable.mono : ∀ a0 k, LeO (formelaw10_usable.f k a0) (formelaw10_usable.f (k + 1) a0) := by
 intro a0 k
 unfold formelaw10_usable.f
 repeat' first
   | (with_reducible exact formeref10_Valid.mono _ _)
   | (with_reducible exact LeO.refl _)
   | (with_reducible exact LeO.none _)
   | (with_reducible refine LeO.ite ?_ ?_)
   | (with_reducible refine LeO.bind ?_ (fun _ => ?_))
   | exact formeref10_Valid.mono _ _
   | exact LeO.none _
   | refine LeO.ite ?_ ?_
   | refine LeO.bind ?_ (fun _ => ?_)
set_option maxHeartbeats 8000000 in
set_option maxRecDepth 100000 in
theorem formelaw10_usable.calls (k : Nat) (A0 : Option Addr) (c0 : Nat) (l0 : List (S24)) (r : Bool) (w : World) (hr0 : Kd.C k24 w A0 l0.length l0) (hc0 : l0.length ≤ c0) (h : formelaw10_usable.f k l0 = some r) :
  Calls Try.prog 27 #[.slice A0 l0.length c0] w fun e w' => e = .returned (.bool r) ∧ Below w.heap.size w w' := by
 have HR0 := Aside0.mk hr0
 have HC0 := Aside0.mk hc0
 clear hr0 hc0
 have HB := Aside0.mk (Below.refl w.heap.size w)
 have H : ((formelaw10_few.f l0).bind fun t465 => (if t465 = true then ((formeref10_Valid.f k l0).bind fun t466 => (some t466)) else (some false))) = some r := h
 clear h
 replace H := Option.bind_eq_some_iff.mp H
 obtain ⟨t465, A20, H⟩ := H
 try dsimp only at H
 have A2 := Aside0.mk A20
 clear A20
 by_cases c3 : t465 = true
 ·subst c3
  have H1 : ((formeref10_Valid.f k l0).bind fun t466 => (some t466)) = some r := by rw [if_pos rfl] at H; exact H
  clear H
  have H := H1
  clear H1
  replace H := Option.bind_eq_some_iff.mp H
  obtain ⟨t466, A40, H⟩ := H
  try dsimp only at H
  have A4 := Aside0.mk A40
  clear A40
  obtain rfl := Option.some.inj H
  go_enter Try.func27, Try.ntmps27
  go_wp2_with (first | ((with_reducible refine gate_callee (f := 10) rfl ?_); refine goesL_ (some 4) rfl rfl Try.func10 (by kernel_rfl) rfl #[.slice A0 l0.length c0] rfl z2_ ?_; (with_reducible refine (formelaw10_few.calls _ _ l0 true _ ?side1 ?side2 A2.out).mono ?_); (case side1 => exact z7_); (case side2 => exact HC0.out); rintro e w' ⟨rfl, ⟨nd, rfl⟩⟩; refine ⟨_, rfl, ?_⟩) | (go_at_call 14; (with_reducible refine (formeref10_Valid.calls k _ _ l0 t466 _ ?side1 ?side2 A4.out).mono ?_); (case side1 => exact z7_); (case side2 => exact HC0.out); rintro e w5 ⟨rfl, hb⟩; have n0_ := Aside0.mk (below_step z1_ hb); clear HB; have HB := n0_; clear n0_; (try clear hb); (try clear hb2); (try clear hk); (try clear hi)))
  go_ret
  exact ⟨by first | rfl | (simp [errW_none, errW_some] <;> rfl) | (simp [*, errW_none, errW_some] <;> rfl), by repeat (first | (with_reducible first | exact HB.out | apply below_alloc | apply pw_below_drewN | apply below_drew1) | exact HB.out)⟩
 ·replace c3 := Bool.eq_false_iff.mpr c3
  subst c3
  have H1 : (some false) = some r := by rw [if_neg (show ¬ (false = true) by decide)] at H; exact H
  clear H
  have H := H1
  clear H1
  obtain rfl := Option.some.inj H
  go_enter Try.func27, Try.ntmps27
  go_wp2_with (first | ((with_reducible refine gate_callee (f := 10) rfl ?_); refine goesL_ (some 4) rfl rfl Try.func10 (by kernel_rfl) rfl #[.slice A0 l0.length c0] rfl z2_ ?_; (with_reducible refine (formelaw10_few.calls _ _ l0 false _ ?side1 ?side2 A2.out).mono ?_); (case side1 => exact z7_); (case side2 => exact HC0.out); rintro e w' ⟨rfl, ⟨nd, rfl⟩⟩; refine ⟨_, rfl, ?_⟩))
  go_ret
  exact ⟨by first | rfl | (simp [errW_none, errW_some] <;> rfl) | (simp [*, errW_none, errW_some] <;> rfl), by repeat (first | (with_reducible first | exact HB.out | apply below_alloc | apply pw_below_drewN | apply below_drew1) | exact HB.out)⟩
end Go.Proofs.Ytpafhhgoldenoaa.P
end
section
namespace Go.Proofs.Ytpafhhgoldenoaa.P
open Go.RowKit Go.Proofs.YtpafhhgoldenoaaW.PrintWords Go.Proofs.YtpafhhgoldenoaaW.PrintLast Go.Proofs.YtpafhhgoldenoaaW.PrintMore
open Go.Proofs.Ytpafhhgoldenoaa.XM
set_option linter.unusedVariables false
set_option linter.unusedSimpArgs false
theorem head_true : Ev (fun k => formelaw10_head.f k) true := Ev.of (fun k => formelaw10_head.mono k) (k := 20) (by kernel_rfl)
end Go.Proofs.Ytpafhhgoldenoaa.P
end
section
namespace Go.Proofs.Ytpafhhgoldenoaa.P
open Go.RowKit Go.Proofs.YtpafhhgoldenoaaW.PrintWords Go.Proofs.YtpafhhgoldenoaaW.PrintLast Go.Proofs.YtpafhhgoldenoaaW.PrintMore
attribute [local go_sem] max2_int min2_int max_two min_two max_three min_three max_four min_four
set_option linter.unusedVariables false
set_option linter.unusedSimpArgs false
mutual
def formelaw10_TreePaths.j0 : Nat → List (S24) → Bool → List Int → Bool → Option (Bool)
 | 0, _, _, _, _ => none
 | k + 1, x0, x5, x7, x64 => if x64 = true then (none) else (formelaw10_TreePaths.l0 k x0 x5 x7 1)
def formelaw10_TreePaths.l0 : Nat → List (S24) → Bool → List Int → Int → Option (Bool)
 | 0, _, _, _, _ => none
 | k + 1, x0, x5, x7, x9 => if x9 < (x7.length : Int) then (if 0 ≤ x9 then ((tree_Find.f x0 (rd x7 x9)).bind fun bt492 => (if bt492.2.2 = 0 then (if bt492.2.1 = true then (if bt492.1 < 0 then (none) else (if bt492.1 ≥ (x0.length : Int) then (none) else (if 0 ≤ bt492.1 then (if bt492.1 < (x0.length : Int) then (if 0 ≤ (wrap64 (x9 - 1)) then (if (wrap64 (x9 - 1)) < (x7.length : Int) then (if ((rd_T24 x0 bt492.1).f1) = (rd x7 (wrap64 (x9 - 1))) then (formelaw10_TreePaths.l0 k x0 x5 x7 (wrap64 (x9 + 1))) else (none)) else (none)) else (none)) else (none)) else (none)))) else (none)) else (none))) else (none)) else (some x5)
end
def formelaw10_TreePaths.f (k : Nat) (l0 : List (S24)) (a1 : Int) : Option (Bool) := (formelaw10_head.f k).bind fun t481 => ((formelaw10_usable.f k l0).bind fun t482 => (if t482 = true then (if (l0.length : Int) = 0 then (none) else (if 0 ≤ (Int.tmod (wrap64 (a1)) (l0.length : Int)) then (if (Int.tmod (wrap64 (a1)) (l0.length : Int)) < (l0.length : Int) then ((tree_Path.f l0 ((rd_T24 l0 (Int.tmod (wrap64 (a1)) (l0.length : Int))).f0)).bind fun bt484 => (if bt484.2 = 0 then (if (bt484.1.length : Int) < 1 then (formelaw10_TreePaths.j0 k l0 t481 bt484.1 true) else (if (bt484.1.length : Int) > 30 then (formelaw10_TreePaths.j0 k l0 t481 bt484.1 true) else (if 0 < (bt484.1.length : Int) then (if 0 < (l0.length : Int) then (if (rd bt484.1 0) = ((rd_T24 l0 0).f0) then (if 0 ≤ (wrap64 ((bt484.1.length : Int) - 1)) then (if (wrap64 ((bt484.1.length : Int) - 1)) < (bt484.1.length : Int) then (formelaw10_TreePaths.j0 k l0 t481 bt484.1 ((rd bt484.1 (wrap64 ((bt484.1.length : Int) - 1))) != ((rd_T24 l0 (Int.tmod (wrap64 (a1)) (l0.length : Int))).f0))) else (none)) else (none)) else (formelaw10_TreePaths.j0 k l0 t481 bt484.1 true)) else (none)) else (none)))) else (formelaw10_TreePaths.j0 k l0 t481 bt484.1 true))) else (none)) else (none))) else (some t481)))
theorem formelaw10_TreePaths.mono_l : ∀ k, (∀ y0 y1 y2 y3, LeO (formelaw10_TreePaths.j0 k y0 y1 y2 y3) (formelaw10_TreePaths.j0 (k + 1) y0 y1 y2 y3)) ∧ (∀ y0 y1 y2 y3, LeO (formelaw10_TreePaths.l0 k y0 y1 y2 y3) (formelaw10_TreePaths.l0 (k + 1) y0 y1 y2 y3))
 | 0 => ⟨fun _ _ _ _ r h => by simp [formelaw10_TreePaths.j0] at h, fun _ _ _ _ r h => by simp [formelaw10_TreePaths.l0] at h⟩
 | k + 1 => by
  obtain ⟨ih0, ih1⟩ := formelaw10_TreePaths.mono_l k
  refine ⟨?_, ?_⟩
  ·intro y0 y1 y2 y3
   unfold formelaw10_TreePaths.j0
   repeat' first
   | (with_reducible exact ih0 _ _ _ _)
   | (with_reducible exact ih1 _ _ _ _)
   | (with_reducible exact formelaw10_head.mono _)
   | (with_reducible exact formelaw10_usable.mono _ _)
   | (with_reducible exact LeO.refl _)
   | (with_reducible exact LeO.none _)
   | (with_reducible refine LeO.ite ?_ ?_)
   | (with_reducible refine LeO.bind ?_ (fun _ => ?_))
   | exact ih0 _ _ _ _
   | exact ih1 _ _ _ _
   | exact formelaw10_head.mono _
   | exact formelaw10_usable.mono _ _
   | exact LeO.none _
   | refine LeO.ite ?_ ?_
   | refine LeO.bind ?_ (fun _ => ?_)
  ·intro y0 y1 y2 y3
   unfold formelaw10_TreePaths.l0
   repeat' first
   | (with_reducible exact ih0 _ _ _ _)
   | (with_reducible exact ih1 _ _ _ _)
   | (with_reducible exact formelaw10_head.mono _)
   | (with_reducible exact formelaw10_usable.mono _ _)
   | (with_reducible exact LeO.refl _)
   | (with_reducible exact LeO.none _)
   | (with_reducible refine LeO.ite ?_ ?_)
   | (with_reducible refine LeO.bind ?_ (fun _ => ?_))
   | exact ih0 _ _ _ _
   | exact ih1 _ _ _ _
   | exact formelaw10_head.mono _
   | exact formelaw10_usable.mono _ _
   | exact LeO.none _
   | refine LeO.ite ?_ ?_
   | refine LeO.bind ?_ (fun _ => ?_)
theorem formelaw10_TreePaths.mono : ∀ a0 a1 k, LeO (formelaw10_TreePaths.f k a0 a1) (formelaw10_TreePaths.f (k + 1) a0 a1) := by
 intro a0 a1 k
 obtain ⟨ih0, ih1⟩ := formelaw10_TreePaths.mono_l k
 unfold formelaw10_TreePaths.f
 repeat' first
   | (with_reducible exact ih0 _ _ _ _)
   | (with_reducible exact ih1 _ _ _ _)
   | (with_reducible exact formelaw10_head.mono _)
   | (with_reducible exact formelaw10_usable.mono _ _)
   | (with_reducible exact LeO.refl _)
   | (with_reducible exact LeO.none _)
   | (with_reducible refine LeO.ite ?_ ?_)
   | (with_reducible refine LeO.bind ?_ (fun _ => ?_))
   | exact ih0 _ _ _ _
   | exact ih1 _ _ _ _
   | exact formelaw10_head.mono _
   | exact formelaw10_usable.mono _ _
   | exact LeO.none _
   | refine LeO.ite ?_ ?_
   | refine LeO.bind ?_ (fun _ => ?_)
set_option maxHeartbeats 8000000 in
set_option maxRecDepth 100000 in
theorem formelaw10_TreePaths.calls (k : Nat) (A0 : Option Addr) (c0 : Nat) (l0 : List (S24)) (a1 : Int) (r : Bool) (w : World) (hr0 : Kd.C k24 w A0 l0.length l0) (hc0 : l0.length ≤ c0) (h : formelaw10_TreePaths.f k l0 a1 = some r) :
  Calls Try.prog 5 #[.slice A0 l0.length c0, .int .u8 a1] w fun e w' => e = .returned (.bool r) ∧ Below w.heap.size w w' := by
 have HR0 := Aside0.mk hr0
 have HC0 := Aside0.mk hc0
 clear hr0 hc0
 have HB := Aside0.mk (Below.refl w.heap.size w)
 have H : ((formelaw10_head.f k).bind fun t481 => ((formelaw10_usable.f k l0).bind fun t482 => (if t482 = true then (if (l0.length : Int) = 0 then (none) else (if 0 ≤ (Int.tmod (wrap64 (a1)) (l0.length : Int)) then (if (Int.tmod (wrap64 (a1)) (l0.length : Int)) < (l0.length : Int) then ((tree_Path.f l0 ((rd_T24 l0 (Int.tmod (wrap64 (a1)) (l0.length : Int))).f0)).bind fun bt484 => (if bt484.2 = 0 then (if (bt484.1.length : Int) < 1 then (formelaw10_TreePaths.j0 k l0 t481 bt484.1 true) else (if (bt484.1.length : Int) > 30 then (formelaw10_TreePaths.j0 k l0 t481 bt484.1 true) else (if 0 < (bt484.1.length : Int) then (if 0 < (l0.length : Int) then (if (rd bt484.1 0) = ((rd_T24 l0 0).f0) then (if 0 ≤ (wrap64 ((bt484.1.length : Int) - 1)) then (if (wrap64 ((bt484.1.length : Int) - 1)) < (bt484.1.length : Int) then (formelaw10_TreePaths.j0 k l0 t481 bt484.1 ((rd bt484.1 (wrap64 ((bt484.1.length : Int) - 1))) != ((rd_T24 l0 (Int.tmod (wrap64 (a1)) (l0.length : Int))).f0))) else (none)) else (none)) else (formelaw10_TreePaths.j0 k l0 t481 bt484.1 true)) else (none)) else (none)))) else (formelaw10_TreePaths.j0 k l0 t481 bt484.1 true))) else (none)) else (none))) else (some t481)))) = some r := h
 clear h
 replace H := Option.bind_eq_some_iff.mp H
 obtain ⟨t481, A30, H⟩ := H
 try dsimp only at H
 have A3 := Aside0.mk A30
 clear A30
 replace H := Option.bind_eq_some_iff.mp H
 obtain ⟨t482, A40, H⟩ := H
 try dsimp only at H
 have A4 := Aside0.mk A40
 clear A40
 by_cases c5 : t482 = true
 ·subst c5
  have H1 : (if (l0.length : Int) = 0 then (none) else (if 0 ≤ (Int.tmod (wrap64 (a1)) (l0.length : Int)) then (if (Int.tmod (wrap64 (a1)) (l0.length : Int)) < (l0.length : Int) then ((tree_Path.f l0 ((rd_T24 l0 (Int.tmod (wrap64 (a1)) (l0.length : Int))).f0)).bind fun bt484 => (if bt484.2 = 0 then (if (bt484.1.length : Int) < 1 then (formelaw10_TreePaths.j0 k l0 t481 bt484.1 true) else (if (bt484.1.length : Int) > 30 then (formelaw10_TreePaths.j0 k l0 t481 bt484.1 true) else (if 0 < (bt484.1.length : Int) then (if 0 < (l0.length : Int) then (if (rd bt484.1 0) = ((rd_T24 l0 0).f0) then (if 0 ≤ (wrap64 ((bt484.1.length : Int) - 1)) then (if (wrap64 ((bt484.1.length : Int) - 1)) < (bt484.1.length : Int) then (formelaw10_TreePaths.j0 k l0 t481 bt484.1 ((rd bt484.1 (wrap64 ((bt484.1.length : Int) - 1))) != ((rd_T24 l0 (Int.tmod (wrap64 (a1)) (l0.length : Int))).f0))) else (none)) else (none)) else (formelaw10_TreePaths.j0 k l0 t481 bt484.1 true)) else (none)) else (none)))) else (formelaw10_TreePaths.j0 k l0 t481 bt484.1 true))) else (none)) else (none))) = some r := by rw [if_pos rfl] at H; exact H
  clear H
  have H := H1
  clear H1
  by_cases c6 : (l0.length : Int) = 0
  ·rw [if_pos c6] at H
   exact absurd H (by simp)
  ·rw [if_neg c6] at H
   have c6b0 : ((l0.length : Int) == 0) = false := beq_eq_false_iff_ne.mpr c6
   have c6b1 : ((l0.length : Int) != 0) = true := bne_iff_ne.mpr c6
   have c6b2 : ¬ (l0 = []) := fun h_ => c6 (by rw [h_]; rfl)
   obtain ⟨ji7, hji7⟩ : ∃ j_ : Int, (Int.tmod (wrap64 (a1)) (l0.length : Int)) = j_ := ⟨_, rfl⟩
   replace H : (if 0 ≤ (ji7) then (if (ji7) < (l0.length : Int) then ((tree_Path.f l0 ((rd_T24 l0 (ji7)).f0)).bind fun bt484 => (if bt484.2 = 0 then (if (bt484.1.length : Int) < 1 then (formelaw10_TreePaths.j0 k l0 t481 bt484.1 true) else (if (bt484.1.length : Int) > 30 then (formelaw10_TreePaths.j0 k l0 t481 bt484.1 true) else (if 0 < (bt484.1.length : Int) then (if 0 < (l0.length : Int) then (if (rd bt484.1 0) = ((rd_T24 l0 0).f0) then (if 0 ≤ (wrap64 ((bt484.1.length : Int) - 1)) then (if (wrap64 ((bt484.1.length : Int) - 1)) < (bt484.1.length : Int) then (formelaw10_TreePaths.j0 k l0 t481 bt484.1 ((rd bt484.1 (wrap64 ((bt484.1.length : Int) - 1))) != ((rd_T24 l0 (ji7)).f0))) else (none)) else (none)) else (formelaw10_TreePaths.j0 k l0 t481 bt484.1 true)) else (none)) else (none)))) else (formelaw10_TreePaths.j0 k l0 t481 bt484.1 true))) else (none)) else (none)) = some r := by first | (rw [hji7] at H; exact H) | (simp only [hji7] at H ⊢; exact H)
   (try rw [hji7] at A3)
   (try rw [hji7] at A4)
   by_cases c8 : 0 ≤ (ji7)
   rotate_left
   ·rw [if_neg c8] at H; exact absurd H (by simp)
   rw [if_pos c8] at H
   have c8b0 : decide (0 ≤ (ji7)) = true := decide_eq_true c8
   clear c8
   by_cases c9 : (ji7) < (l0.length : Int)
   rotate_left
   ·rw [if_neg c9] at H; exact absurd H (by simp)
   rw [if_pos c9] at H
   have c9b0 : decide ((ji7) < (l0.length : Int)) = true := decide_eq_true c9
   clear c9
   replace H := Option.bind_eq_some_iff.mp H
   obtain ⟨⟨t484, t485⟩, A100, H⟩ := H
   try dsimp only at H
   have A10 := Aside0.mk A100
   clear A100
   have HC11 := Aside0.mk H
   clear H
   go_enter Try.func5, Try.ntmps5
   go_upto_region 6 with (first | (go_at_call 9; (with_reducible refine (formelaw10_head.calls k  t481 _ A3.out).mono ?_); rintro e w12 ⟨rfl, hb⟩; have n0_ := Aside0.mk (below_step z1_ hb); clear HB; have HB := n0_; clear n0_; (try clear hb); (try clear hb2); (try clear hk); (try clear hi)) | (go_at_call 27; (with_reducible refine (formelaw10_usable.calls k _ _ l0 true _ ?side1 ?side2 A4.out).mono ?_); (case side1 => exact z3_); (case side2 => exact HC0.out); rintro e w13 ⟨rfl, hb⟩; have n0_ := Aside0.mk (below_step z1_ hb); clear HB; have HB := n0_; clear n0_; (try clear hb); (try clear hb2); (try clear hk); (try clear hi); have p483 : 0 ≤ ((ji7) : Int) := of_decide_eq_true z4_; have q483 : (ji7) < (l0.length : Int) := of_decide_eq_true z4_; obtain ⟨ad483, e483, hx483_0, hx483_1, hx483_2, hx483_3, hx483_4⟩ := at_T24 HR0.out (ji7) p483 q483; cases e483; replace hx483_0 := hbc_ HB.out hx483_0; replace hx483_1 := hbc_ HB.out hx483_1; replace hx483_2 := hbc_ HB.out hx483_2; replace hx483_3 := hbc_ HB.out hx483_3; replace hx483_4 := hbc_ HB.out hx483_4; replace p483 := eq_true p483; replace q483 := eq_true q483) | (go_at_call 18; (with_reducible refine (tree_Path.calls _ _ l0 ((rd_T24 l0 (ji7)).f0) t484 t485 _ ?side1 ?side2 A10.out).mono ?_); (case side1 => exact z3_); (case side2 => exact HC0.out); rintro e w14 ⟨v486, rfl, ho0, hb⟩; have n0_ := Aside0.mk (Kd.R_lower ho0 (below_size z1_)); have n1_ := Aside0.mk (below_step z1_ hb); clear HB; have HO487 := n0_; have HB := n1_; clear n0_ n1_; (try clear hb); (try clear hb2); (try clear hk); (try clear hi); (try clear ho0)))
   repeat (go_quiet (first | (go_at_call 9; (with_reducible refine (formelaw10_head.calls k  t481 _ A3.out).mono ?_); rintro e w12 ⟨rfl, hb⟩; have n0_ := Aside0.mk (below_step z1_ hb); clear HB; have HB := n0_; clear n0_; (try clear hb); (try clear hb2); (try clear hk); (try clear hi)) | (go_at_call 27; (with_reducible refine (formelaw10_usable.calls k _ _ l0 true _ ?side1 ?side2 A4.out).mono ?_); (case side1 => exact z3_); (case side2 => exact HC0.out); rintro e w13 ⟨rfl, hb⟩; have n0_ := Aside0.mk (below_step z1_ hb); clear HB; have HB := n0_; clear n0_; (try clear hb); (try clear hb2); (try clear hk); (try clear hi); have p483 : 0 ≤ ((ji7) : Int) := of_decide_eq_true z4_; have q483 : (ji7) < (l0.length : Int) := of_decide_eq_true z4_; obtain ⟨ad483, e483, hx483_0, hx483_1, hx483_2, hx483_3, hx483_4⟩ := at_T24 HR0.out (ji7) p483 q483; cases e483; replace hx483_0 := hbc_ HB.out hx483_0; replace hx483_1 := hbc_ HB.out hx483_1; replace hx483_2 := hbc_ HB.out hx483_2; replace hx483_3 := hbc_ HB.out hx483_3; replace hx483_4 := hbc_ HB.out hx483_4; replace p483 := eq_true p483; replace q483 := eq_true q483) | (go_at_call 18; (with_reducible refine (tree_Path.calls _ _ l0 ((rd_T24 l0 (ji7)).f0) t484 t485 _ ?side1 ?side2 A10.out).mono ?_); (case side1 => exact z3_); (case side2 => exact HC0.out); rintro e w14 ⟨v486, rfl, ho0, hb⟩; have n0_ := Aside0.mk (Kd.R_lower ho0 (below_size z1_)); have n1_ := Aside0.mk (below_step z1_ hb); clear HB; have HO487 := n0_; have HB := n1_; clear n0_ n1_; (try clear hb); (try clear hb2); (try clear hk); (try clear hi); (try clear ho0))); go_upto_region 6 with (first | (go_at_call 9; (with_reducible refine (formelaw10_head.calls k  t481 _ A3.out).mono ?_); rintro e w12 ⟨rfl, hb⟩; have n0_ := Aside0.mk (below_step z1_ hb); clear HB; have HB := n0_; clear n0_; (try clear hb); (try clear hb2); (try clear hk); (try clear hi)) | (go_at_call 27; (with_reducible refine (formelaw10_usable.calls k _ _ l0 true _ ?side1 ?side2 A4.out).mono ?_); (case side1 => exact z3_); (case side2 => exact HC0.out); rintro e w13 ⟨rfl, hb⟩; have n0_ := Aside0.mk (below_step z1_ hb); clear HB; have HB := n0_; clear n0_; (try clear hb); (try clear hb2); (try clear hk); (try clear hi); have p483 : 0 ≤ ((ji7) : Int) := of_decide_eq_true z4_; have q483 : (ji7) < (l0.length : Int) := of_decide_eq_true z4_; obtain ⟨ad483, e483, hx483_0, hx483_1, hx483_2, hx483_3, hx483_4⟩ := at_T24 HR0.out (ji7) p483 q483; cases e483; replace hx483_0 := hbc_ HB.out hx483_0; replace hx483_1 := hbc_ HB.out hx483_1; replace hx483_2 := hbc_ HB.out hx483_2; replace hx483_3 := hbc_ HB.out hx483_3; replace hx483_4 := hbc_ HB.out hx483_4; replace p483 := eq_true p483; replace q483 := eq_true q483) | (go_at_call 18; (with_reducible refine (tree_Path.calls _ _ l0 ((rd_T24 l0 (ji7)).f0) t484 t485 _ ?side1 ?side2 A10.out).mono ?_); (case side1 => exact z3_); (case side2 => exact HC0.out); rintro e w14 ⟨v486, rfl, ho0, hb⟩; have n0_ := Aside0.mk (Kd.R_lower ho0 (below_size z1_)); have n1_ := Aside0.mk (below_step z1_ hb); clear HB; have HO487 := n0_; have HB := n1_; clear n0_ n1_; (try clear hb); (try clear hb2); (try clear hk); (try clear hi); (try clear ho0))))
   (try simp only [Act.put, List.setIfInBounds_toArray, List.set_cons_zero, List.set_cons_succ])
   go_cut [64] (fun v64 wc => ∃ (kq : Nat) (x64_10 : Bool), v64 = .bool x64_10 ∧ Aside0 (formelaw10_TreePaths.j0 kq l0 t481 t484 x64_10 = some r) ∧ Aside0 (kq ≤ k) ∧ Aside0 (Kd.R (Kd.int .i64) 3 wc w.heap.size (fun _ => True) v486 t484) ∧ Aside0 (Below w.heap.size w wc))
   case first =>
    have H := HC11.out
    clear HC11
    by_cases c15 : t485 = 0
    ·rw [if_pos c15] at H
     have c15b0 : (t485 == 0) = true := beq_iff_eq.mpr c15
     have c15b1 : (t485 != 0) = false := bne_eq_false_iff_eq.mpr c15
     clear c15
     (first | rw [c15b0] | (simp only [i64_w, i32_w]; rw [c15b0]) | skip)
     by_cases c16 : (t484.length : Int) < 1
     ·rw [if_pos c16] at H
      have c16b0 : decide ((t484.length : Int) < 1) = true := decide_eq_true c16
      have c16b1 : decide (t484.length < 1) = true := decide_eq_true (by omega)
      clear c16
      have H' := Aside0.mk H
      clear H
      obtain ⟨Ao17, co17, eo17⟩ := Kd.R_slice HO487.out
      subst eo17
      go_wp2
      repeat (go_quiet (fail); try go_wp2)
      go_meet
      case rel => exact ⟨_, (true), z9_, H', ⟨by first | omega | exact Nat.le_refl _⟩, ⟨by (with_reducible repeat (first | apply Kd.R_alloc | apply Kd.R_drewN | apply Kd.R_drew)); exact HO487.out⟩, ⟨by repeat (first | (with_reducible first | exact HB.out | apply below_alloc | apply pw_below_drewN | apply below_drew1) | exact HB.out)⟩⟩
     ·rw [if_neg c16] at H
      have c16b0 : decide ((t484.length : Int) < 1) = false := decide_eq_false c16
      have c16b1 : decide (t484.length < 1) = false := decide_eq_false (by omega)
      clear c16
      by_cases c18 : (t484.length : Int) > 30
      ·rw [if_pos c18] at H
       have c18b0 : decide (30 < (t484.length : Int)) = true := decide_eq_true c18
       have c18b1 : decide (30 < t484.length) = true := decide_eq_true (by omega)
       clear c18
       have H' := Aside0.mk H
       clear H
       obtain ⟨Ao19, co19, eo19⟩ := Kd.R_slice HO487.out
       subst eo19
       go_wp2
       repeat (go_quiet (fail); try go_wp2)
       go_meet
       case rel => exact ⟨_, (true), z9_, H', ⟨by first | omega | exact Nat.le_refl _⟩, ⟨by (with_reducible repeat (first | apply Kd.R_alloc | apply Kd.R_drewN | apply Kd.R_drew)); exact HO487.out⟩, ⟨by repeat (first | (with_reducible first | exact HB.out | apply below_alloc | apply pw_below_drewN | apply below_drew1) | exact HB.out)⟩⟩
      ·rw [if_neg c18] at H
       have c18b0 : decide (30 < (t484.length : Int)) = false := decide_eq_false c18
       have c18b1 : decide (30 < t484.length) = false := decide_eq_false (by omega)
       clear c18
       by_cases c20 : 0 < (t484.length : Int)
       rotate_left
       ·rw [if_neg c20] at H; exact absurd H (by simp)
       rw [if_pos c20] at H
       have c20b0 : decide (0 < (t484.length : Int)) = true := decide_eq_true c20
       have c20b1 : decide (0 < t484.length) = true := decide_eq_true (by omega)
       clear c20
       by_cases c21 : 0 < (l0.length : Int)
       rotate_left
       ·rw [if_neg c21] at H; exact absurd H (by simp)
       rw [if_pos c21] at H
       have c21b0 : decide (0 < (l0.length : Int)) = true := decide_eq_true c21
       have c21b1 : decide (0 < l0.length) = true := decide_eq_true (by omega)
       clear c21
       by_cases c22 : (rd t484 0) = ((rd_T24 l0 0).f0)
       ·rw [if_pos c22] at H
        have c22b0 : ((rd t484 0) == ((rd_T24 l0 0).f0)) = true := beq_iff_eq.mpr c22
        have c22b1 : ((rd t484 0) != ((rd_T24 l0 0).f0)) = false := bne_eq_false_iff_eq.mpr c22
        clear c22
        obtain ⟨ji23, hji23⟩ : ∃ j_ : Int, (wrap64 ((t484.length : Int) - 1)) = j_ := ⟨_, rfl⟩
        replace H : (if 0 ≤ (ji23) then (if (ji23) < (t484.length : Int) then (formelaw10_TreePaths.j0 k l0 t481 t484 ((rd t484 (ji23)) != ((rd_T24 l0 (ji7)).f0))) else (none)) else (none)) = some r := by first | (rw [hji23] at H; exact H) | (simp only [hji23] at H ⊢; exact H)
        have hji23w : (IntKind.i64.wrap ((t484.length : Int) - 1)) = ji23 := (i64_w _).trans hji23
        by_cases c24 : 0 ≤ (ji23)
        rotate_left
        ·rw [if_neg c24] at H; exact absurd H (by simp)
        rw [if_pos c24] at H
        have c24b0 : decide (0 ≤ (ji23)) = true := decide_eq_true c24
        clear c24
        by_cases c25 : (ji23) < (t484.length : Int)
        rotate_left
        ·rw [if_neg c25] at H; exact absurd H (by simp)
        rw [if_pos c25] at H
        have c25b0 : decide ((ji23) < (t484.length : Int)) = true := decide_eq_true c25
        clear c25
        have H' := Aside0.mk H
        clear H
        obtain ⟨Ao26, co26, eo26⟩ := Kd.R_slice HO487.out
        subst eo26
        have p488 : 0 ≤ (0 : Int) := (by omega)
        have q488 : 0 < (t484.length : Int) := of_decide_eq_true z4_
        obtain ⟨ad488, e488, hx488_0⟩ := Kd.at_int (Kd.R_reads' HO487.out).2.2 0 p488 q488
        cases e488
        have qi488 : (0 < t484.length) = True := eq_true (by omega)
        (try rw [show ((0 : Int)).toNat = 0 from rfl] at hx488_0)
        (try rw [Addr.add_zero'] at hx488_0)
        replace p488 := eq_true p488
        replace q488 := eq_true q488
        have p489 : 0 ≤ (0 : Int) := (by omega)
        have q489 : 0 < (l0.length : Int) := of_decide_eq_true z4_
        obtain ⟨ad489, e489, hx489_0, hx489_1, hx489_2, hx489_3, hx489_4⟩ := at_T24 HR0.out 0 p489 q489
        obtain rfl : ad483 = ad489 := (by injection e489)
        have qi489 : (0 < l0.length) = True := eq_true (by omega)
        (try simp only [show ((0 : Int)).toNat = 0 from rfl, show 0 * 5 = 0 from rfl, Addr.add_zero'] at hx489_0 hx489_1 hx489_2 hx489_3 hx489_4)
        replace hx489_0 := hbc_ HB.out hx489_0
        replace hx489_1 := hbc_ HB.out hx489_1
        replace hx489_2 := hbc_ HB.out hx489_2
        replace hx489_3 := hbc_ HB.out hx489_3
        replace hx489_4 := hbc_ HB.out hx489_4
        replace p489 := eq_true p489
        replace q489 := eq_true q489
        have p490 : 0 ≤ ((ji23) : Int) := of_decide_eq_true z4_
        have q490 : (ji23) < (t484.length : Int) := of_decide_eq_true z4_
        obtain ⟨ad490, e490, hx490_0⟩ := Kd.at_int (Kd.R_reads' HO487.out).2.2 (ji23) p490 q490
        obtain rfl : ad488 = ad490 := (by injection e490)
        replace p490 := eq_true p490
        replace q490 := eq_true q490
        go_wp2
        repeat (go_quiet (fail); try go_wp2)
        go_meet
        case rel => exact ⟨_, (((rd t484 (ji23)) != ((rd_T24 l0 (ji7)).f0))), (by first | rfl | (simp; done) | (simp only [← hji7, ← hji23] <;> (first | rfl | simp)) | (simp [*]; done)), H', ⟨by first | omega | exact Nat.le_refl _⟩, ⟨by (with_reducible repeat (first | apply Kd.R_alloc | apply Kd.R_drewN | apply Kd.R_drew)); exact HO487.out⟩, ⟨by repeat (first | (with_reducible first | exact HB.out | apply below_alloc | apply pw_below_drewN | apply below_drew1) | exact HB.out)⟩⟩
       ·rw [if_neg c22] at H
        have c22b0 : ((rd t484 0) == ((rd_T24 l0 0).f0)) = false := beq_eq_false_iff_ne.mpr c22
        have c22b1 : ((rd t484 0) != ((rd_T24 l0 0).f0)) = true := bne_iff_ne.mpr c22
        have H' := Aside0.mk H
        clear H
        obtain ⟨Ao27, co27, eo27⟩ := Kd.R_slice HO487.out
        subst eo27
        have p488 : 0 ≤ (0 : Int) := (by omega)
        have q488 : 0 < (t484.length : Int) := of_decide_eq_true z4_
        obtain ⟨ad488, e488, hx488_0⟩ := Kd.at_int (Kd.R_reads' HO487.out).2.2 0 p488 q488
        cases e488
        have qi488 : (0 < t484.length) = True := eq_true (by omega)
        (try rw [show ((0 : Int)).toNat = 0 from rfl] at hx488_0)
        (try rw [Addr.add_zero'] at hx488_0)
        replace p488 := eq_true p488
        replace q488 := eq_true q488
        have p489 : 0 ≤ (0 : Int) := (by omega)
        have q489 : 0 < (l0.length : Int) := of_decide_eq_true z4_
        obtain ⟨ad489, e489, hx489_0, hx489_1, hx489_2, hx489_3, hx489_4⟩ := at_T24 HR0.out 0 p489 q489
        obtain rfl : ad483 = ad489 := (by injection e489)
        have qi489 : (0 < l0.length) = True := eq_true (by omega)
        (try simp only [show ((0 : Int)).toNat = 0 from rfl, show 0 * 5 = 0 from rfl, Addr.add_zero'] at hx489_0 hx489_1 hx489_2 hx489_3 hx489_4)
        replace hx489_0 := hbc_ HB.out hx489_0
        replace hx489_1 := hbc_ HB.out hx489_1
        replace hx489_2 := hbc_ HB.out hx489_2
        replace hx489_3 := hbc_ HB.out hx489_3
        replace hx489_4 := hbc_ HB.out hx489_4
        replace p489 := eq_true p489
        replace q489 := eq_true q489
        go_wp2
        repeat (go_quiet (fail); try go_wp2)
        go_meet
        case rel => exact ⟨_, (true), z9_, H', ⟨by first | omega | exact Nat.le_refl _⟩, ⟨by (with_reducible repeat (first | apply Kd.R_alloc | apply Kd.R_drewN | apply Kd.R_drew)); exact HO487.out⟩, ⟨by repeat (first | (with_reducible first | exact HB.out | apply below_alloc | apply pw_below_drewN | apply below_drew1) | exact HB.out)⟩⟩
    ·rw [if_neg c15] at H
     have c15b0 : (t485 == 0) = false := beq_eq_false_iff_ne.mpr c15
     have c15b1 : (t485 != 0) = true := bne_iff_ne.mpr c15
     (first | rw [c15b0] | (simp only [i64_w, i32_w]; rw [c15b0]) | skip)
     have H' := Aside0.mk H
     clear H
     go_wp2
     repeat (go_quiet (fail); try go_wp2)
     go_meet
     case rel => exact ⟨_, (true), z9_, H', ⟨by first | omega | exact Nat.le_refl _⟩, ⟨by (with_reducible repeat (first | apply Kd.R_alloc | apply Kd.R_drewN | apply Kd.R_drew)); exact HO487.out⟩, ⟨by repeat (first | (with_reducible first | exact HB.out | apply below_alloc | apply pw_below_drewN | apply below_drew1) | exact HB.out)⟩⟩
   case rest =>
    clear HC11
    try clear c1
    try clear c2
    try clear p2
    try clear p4
    try clear q4
    try clear hx4
    try clear qi4
    try clear c5
    try clear c6
    try clear c6b0
    try clear c6b1
    try clear c6b2
    try clear p6
    try clear c8
    try clear c8b0
    try clear c9
    try clear c9b0
    try clear c15
    try clear c15b0
    try clear c15b1
    try clear c16
    try clear c16b0
    try clear c16b1
    try clear c18
    try clear c18b0
    try clear c18b1
    try clear c20
    try clear c20b0
    try clear c20b1
    try clear c21
    try clear c21b0
    try clear c21b1
    try clear c22
    try clear c22b0
    try clear c22b1
    try clear c24
    try clear c24b0
    try clear c25
    try clear c25b0
    try clear hx483_0
    try clear hx483_1
    try clear hx483_2
    try clear hx483_3
    try clear hx483_4
    try clear hx488_0
    try clear hx489_0
    try clear hx489_1
    try clear hx489_2
    try clear hx489_3
    try clear hx489_4
    try clear hx490_0
    try clear p483
    try clear p488
    try clear p489
    try clear p490
    try clear q483
    try clear q488
    try clear q489
    try clear q490
    obtain ⟨kq, x64_10, rfl, HA, HJ10, HO_7, HB⟩ := hcut
    cases kq with
    | zero => exact absurd HA.out (by simp [formelaw10_TreePaths.j0])
    | succ kj10 =>
     have H := HA.out
     clear HA
     simp only [formelaw10_TreePaths.j0] at H
     by_cases c28 : x64_10 = true
     ·subst c28
      have H1 : (none) = some r := by rw [if_pos rfl] at H; exact H
      clear H
      have H := H1
      clear H1
      exact absurd H (by simp)
     ·replace c28 := Bool.eq_false_iff.mpr c28
      subst c28
      have H1 : (formelaw10_TreePaths.l0 kj10 l0 t481 t484 1) = some r := by rw [if_neg (show ¬ (false = true) by decide)] at H; exact H
      clear H
      have H := H1
      clear H1
      have H' := Aside0.mk H
      clear H
      go_wp2
      repeat (go_quiet (fail); try go_wp2)
      go_loopg [9] kj10 (fun kq v9 w' => ∃ (x9_2 : Int), v9 = .int .i64 x9_2 ∧ Aside0 (formelaw10_TreePaths.l0 kq l0 t481 t484 x9_2 = some r) ∧ Aside0 (kq ≤ kj10) ∧ Aside0 (Kd.R (Kd.int .i64) 3 w' w.heap.size (fun _ => True) v486 t484) ∧ Aside0 (Below w.heap.size w w'))
      case atStart => exact ⟨(1), z9_, H', ⟨Nat.le_refl _⟩, ⟨by (with_reducible repeat (first | apply Kd.R_alloc | apply Kd.R_drewN | apply Kd.R_drew)); exact HO_7.out⟩, ⟨by repeat (first | (with_reducible first | exact HB.out | apply below_alloc | apply pw_below_drewN | apply below_drew1) | exact HB.out)⟩⟩
      case round =>
       clear H'
       try clear c1
       try clear c2
       try clear p2
       try clear p4
       try clear q4
       try clear hx4
       try clear qi4
       try clear c5
       try clear c6
       try clear c6b0
       try clear c6b1
       try clear c6b2
       try clear p6
       try clear c8
       try clear c8b0
       try clear c9
       try clear c9b0
       try clear c15
       try clear c15b0
       try clear c15b1
       try clear c16
       try clear c16b0
       try clear c16b1
       try clear c18
       try clear c18b0
       try clear c18b1
       try clear c20
       try clear c20b0
       try clear c20b1
       try clear c21
       try clear c21b0
       try clear c21b1
       try clear c22
       try clear c22b0
       try clear c22b1
       try clear c24
       try clear c24b0
       try clear c25
       try clear c25b0
       try clear c28
       try clear hx483_0
       try clear hx483_1
       try clear hx483_2
       try clear hx483_3
       try clear hx483_4
       try clear hx488_0
       try clear hx489_0
       try clear hx489_1
       try clear hx489_2
       try clear hx489_3
       try clear hx489_4
       try clear hx490_0
       try clear p2
       try clear p4
       try clear p483
       try clear p488
       try clear p489
       try clear p490
       try clear p6
       try clear q4
       try clear q483
       try clear q488
       try clear q489
       try clear q490
       obtain ⟨x9_2, rfl, HA, HK2, HO_7, HB⟩ := hrel
       cases gk with
       | zero => exact absurd HA.out (by simp [formelaw10_TreePaths.l0])
       | succ k2 =>
        have H := HA.out
        clear HA
        simp only [formelaw10_TreePaths.l0] at H
        by_cases c29 : x9_2 < (t484.length : Int)
        ·rw [if_pos c29] at H
         have c29b0 : decide (x9_2 < (t484.length : Int)) = true := decide_eq_true c29
         clear c29
         by_cases c30 : 0 ≤ x9_2
         rotate_left
         ·rw [if_neg c30] at H; exact absurd H (by simp)
         rw [if_pos c30] at H
         have c30b0 : decide (0 ≤ x9_2) = true := decide_eq_true c30
         clear c30
         replace H := Option.bind_eq_some_iff.mp H
         obtain ⟨⟨t492, t493, t494⟩, A310, H⟩ := H
         try dsimp only at H
         have A31 := Aside0.mk A310
         clear A310
         by_cases c32 : t494 = 0
         rotate_left
         ·rw [if_neg c32] at H; exact absurd H (by simp)
         rw [if_pos c32] at H
         have c32b0 : (t494 == 0) = true := beq_iff_eq.mpr c32
         have c32b1 : (t494 != 0) = false := bne_eq_false_iff_eq.mpr c32
         clear c32
         by_cases c33 : t493 = true
         ·subst c33
          have H1 : (if t492 < 0 then (none) else (if t492 ≥ (l0.length : Int) then (none) else (if 0 ≤ t492 then (if t492 < (l0.length : Int) then (if 0 ≤ (wrap64 (x9_2 - 1)) then (if (wrap64 (x9_2 - 1)) < (t484.length : Int) then (if ((rd_T24 l0 t492).f1) = (rd t484 (wrap64 (x9_2 - 1))) then (formelaw10_TreePaths.l0 k2 l0 t481 t484 (wrap64 (x9_2 + 1))) else (none)) else (none)) else (none)) else (none)) else (none)))) = some r := by rw [if_pos rfl] at H; exact H
          clear H
          have H := H1
          clear H1
          by_cases c34 : t492 < 0
          ·rw [if_pos c34] at H
           exact absurd H (by simp)
          ·rw [if_neg c34] at H
           have c34b0 : decide (t492 < 0) = false := decide_eq_false c34
           clear c34
           by_cases c35 : t492 ≥ (l0.length : Int)
           ·rw [if_pos c35] at H
            exact absurd H (by simp)
           ·rw [if_neg c35] at H
            have c35b0 : decide ((l0.length : Int) ≤ t492) = false := decide_eq_false c35
            clear c35
            by_cases c36 : 0 ≤ t492
            rotate_left
            ·rw [if_neg c36] at H; exact absurd H (by simp)
            rw [if_pos c36] at H
            have c36b0 : decide (0 ≤ t492) = true := decide_eq_true c36
            clear c36
            by_cases c37 : t492 < (l0.length : Int)
            rotate_left
            ·rw [if_neg c37] at H; exact absurd H (by simp)
            rw [if_pos c37] at H
            have c37b0 : decide (t492 < (l0.length : Int)) = true := decide_eq_true c37
            clear c37
            obtain ⟨ji38, hji38⟩ : ∃ j_ : Int, (wrap64 (x9_2 - 1)) = j_ := ⟨_, rfl⟩
            replace H : (if 0 ≤ (ji38) then (if (ji38) < (t484.length : Int) then (if ((rd_T24 l0 t492).f1) = (rd t484 (ji38)) then (formelaw10_TreePaths.l0 k2 l0 t481 t484 (wrap64 (x9_2 + 1))) else (none)) else (none)) else (none)) = some r := by first | (rw [hji38] at H; exact H) | (simp only [hji38] at H ⊢; exact H)
            (try rw [hji38] at A31)
            have hji38w : (IntKind.i64.wrap (x9_2 - 1)) = ji38 := (i64_w _).trans hji38
            by_cases c39 : 0 ≤ (ji38)
            rotate_left
            ·rw [if_neg c39] at H; exact absurd H (by simp)
            rw [if_pos c39] at H
            have c39b0 : decide (0 ≤ (ji38)) = true := decide_eq_true c39
            clear c39
            by_cases c40 : (ji38) < (t484.length : Int)
            rotate_left
            ·rw [if_neg c40] at H; exact absurd H (by simp)
            rw [if_pos c40] at H
            have c40b0 : decide ((ji38) < (t484.length : Int)) = true := decide_eq_true c40
            clear c40
            by_cases c41 : ((rd_T24 l0 t492).f1) = (rd t484 (ji38))
            rotate_left
            ·rw [if_neg c41] at H; exact absurd H (by simp)
            rw [if_pos c41] at H
            have c41b0 : (((rd_T24 l0 t492).f1) == (rd t484 (ji38))) = true := beq_iff_eq.mpr c41
            have c41b1 : (((rd_T24 l0 t492).f1) != (rd t484 (ji38))) = false := bne_eq_false_iff_eq.mpr c41
            clear c41
            have H' := Aside0.mk H
            clear H
            obtain ⟨Ao42, co42, eo42⟩ := Kd.R_slice HO_7.out
            subst eo42
            have p491 : 0 ≤ (x9_2 : Int) := of_decide_eq_true z4_
            have q491 : x9_2 < (t484.length : Int) := of_decide_eq_true z4_
            obtain ⟨ad491, e491, hx491_0⟩ := Kd.at_int (Kd.R_reads' HO_7.out).2.2 x9_2 p491 q491
            cases e491
            replace p491 := eq_true p491
            replace q491 := eq_true q491
            go_wp2_with (first | (go_at_call 11; (with_reducible refine (tree_Find.calls _ _ l0 (rd t484 x9_2) t492 true t494 _ ?side1 ?side2 A31.out).mono ?_); (case side1 => exact z3_); (case side2 => exact HC0.out); rintro e w43 ⟨rfl, hb⟩; have n0_ := Aside0.mk (Kd.R_below z41_ hb); have n1_ := Aside0.mk (below_step z1_ hb); clear HO_7; clear HB; have HO_7 := n0_; have HB := n1_; clear n0_ n1_; (try clear hb); (try clear hb2); (try clear hk); (try clear hi); have p495 : 0 ≤ (t492 : Int) := of_decide_eq_true z4_; have q495 : t492 < (l0.length : Int) := of_decide_eq_true z4_; obtain ⟨ad495, e495, hx495_0, hx495_1, hx495_2, hx495_3, hx495_4⟩ := at_T24 HR0.out t492 p495 q495; obtain rfl : ad483 = ad495 := (by injection e495); replace hx495_0 := hbc_ HB.out hx495_0; replace hx495_1 := hbc_ HB.out hx495_1; replace hx495_2 := hbc_ HB.out hx495_2; replace hx495_3 := hbc_ HB.out hx495_3; replace hx495_4 := hbc_ HB.out hx495_4; replace p495 := eq_true p495; replace q495 := eq_true q495; have p496 : 0 ≤ ((ji38) : Int) := of_decide_eq_true z4_; have q496 : (ji38) < (t484.length : Int) := of_decide_eq_true z4_; obtain ⟨ad496, e496, hx496_0⟩ := Kd.at_int (Kd.R_reads' HO_7.out).2.2 (ji38) p496 q496; obtain rfl : ad491 = ad496 := (by injection e496); replace p496 := eq_true p496; replace q496 := eq_true q496))
            repeat (go_quiet (first | (go_at_call 11; (with_reducible refine (tree_Find.calls _ _ l0 (rd t484 x9_2) t492 true t494 _ ?side1 ?side2 A31.out).mono ?_); (case side1 => exact z3_); (case side2 => exact HC0.out); rintro e w43 ⟨rfl, hb⟩; have n0_ := Aside0.mk (Kd.R_below z41_ hb); have n1_ := Aside0.mk (below_step z1_ hb); clear HO_7; clear HB; have HO_7 := n0_; have HB := n1_; clear n0_ n1_; (try clear hb); (try clear hb2); (try clear hk); (try clear hi); have p495 : 0 ≤ (t492 : Int) := of_decide_eq_true z4_; have q495 : t492 < (l0.length : Int) := of_decide_eq_true z4_; obtain ⟨ad495, e495, hx495_0, hx495_1, hx495_2, hx495_3, hx495_4⟩ := at_T24 HR0.out t492 p495 q495; obtain rfl : ad483 = ad495 := (by injection e495); replace hx495_0 := hbc_ HB.out hx495_0; replace hx495_1 := hbc_ HB.out hx495_1; replace hx495_2 := hbc_ HB.out hx495_2; replace hx495_3 := hbc_ HB.out hx495_3; replace hx495_4 := hbc_ HB.out hx495_4; replace p495 := eq_true p495; replace q495 := eq_true q495; have p496 : 0 ≤ ((ji38) : Int) := of_decide_eq_true z4_; have q496 : (ji38) < (t484.length : Int) := of_decide_eq_true z4_; obtain ⟨ad496, e496, hx496_0⟩ := Kd.at_int (Kd.R_reads' HO_7.out).2.2 (ji38) p496 q496; obtain rfl : ad491 = ad496 := (by injection e496); replace p496 := eq_true p496; replace q496 := eq_true q496)); try go_wp2_with (first | (go_at_call 11; (with_reducible refine (tree_Find.calls _ _ l0 (rd t484 x9_2) t492 true t494 _ ?side1 ?side2 A31.out).mono ?_); (case side1 => exact z3_); (case side2 => exact HC0.out); rintro e w43 ⟨rfl, hb⟩; have n0_ := Aside0.mk (Kd.R_below z41_ hb); have n1_ := Aside0.mk (below_step z1_ hb); clear HO_7; clear HB; have HO_7 := n0_; have HB := n1_; clear n0_ n1_; (try clear hb); (try clear hb2); (try clear hk); (try clear hi); have p495 : 0 ≤ (t492 : Int) := of_decide_eq_true z4_; have q495 : t492 < (l0.length : Int) := of_decide_eq_true z4_; obtain ⟨ad495, e495, hx495_0, hx495_1, hx495_2, hx495_3, hx495_4⟩ := at_T24 HR0.out t492 p495 q495; obtain rfl : ad483 = ad495 := (by injection e495); replace hx495_0 := hbc_ HB.out hx495_0; replace hx495_1 := hbc_ HB.out hx495_1; replace hx495_2 := hbc_ HB.out hx495_2; replace hx495_3 := hbc_ HB.out hx495_3; replace hx495_4 := hbc_ HB.out hx495_4; replace p495 := eq_true p495; replace q495 := eq_true q495; have p496 : 0 ≤ ((ji38) : Int) := of_decide_eq_true z4_; have q496 : (ji38) < (t484.length : Int) := of_decide_eq_true z4_; obtain ⟨ad496, e496, hx496_0⟩ := Kd.at_int (Kd.R_reads' HO_7.out).2.2 (ji38) p496 q496; obtain rfl : ad491 = ad496 := (by injection e496); replace p496 := eq_true p496; replace q496 := eq_true q496)))
            go_roundg k2
            case measure => have := HJ10.out; have := HK2.out; omega
            case rel => exact ⟨(wrap64 (x9_2 + 1)), z9_, H', ⟨by have := HJ10.out; have := HK2.out; omega⟩, ⟨by (with_reducible repeat (first | apply Kd.R_alloc | apply Kd.R_drewN | apply Kd.R_drew)); exact HO_7.out⟩, ⟨by repeat (first | (with_reducible first | exact HB.out | apply below_alloc | apply pw_below_drewN | apply below_drew1) | exact HB.out)⟩⟩
         ·replace c33 := Bool.eq_false_iff.mpr c33
          subst c33
          have H1 : (none) = some r := by rw [if_neg (show ¬ (false = true) by decide)] at H; exact H
          clear H
          have H := H1
          clear H1
          exact absurd H (by simp)
        ·rw [if_neg c29] at H
         have c29b0 : decide (x9_2 < (t484.length : Int)) = false := decide_eq_false c29
         clear c29
         obtain rfl := Option.some.inj H
         obtain ⟨Ao44, co44, eo44⟩ := Kd.R_slice HO_7.out
         subst eo44
         go_wp2
         repeat (go_quiet (fail); try go_wp2)
         go_ret
         exact ⟨by first | rfl | (simp [errW_none, errW_some] <;> rfl) | (simp only [← hji7]; first | rfl | (simp [errW_none, errW_some] <;> rfl)) | (simp [*, errW_none, errW_some] <;> rfl), by repeat (first | (with_reducible first | exact HB.out | apply below_alloc | apply pw_below_drewN | apply below_drew1) | exact HB.out)⟩
 ·replace c5 := Bool.eq_false_iff.mpr c5
  subst c5
  have H1 : (some t481) = some r := by rw [if_neg (show ¬ (false = true) by decide)] at H; exact H
  clear H
  have H := H1
  clear H1
  obtain rfl := Option.some.inj H
  go_enter Try.func5, Try.ntmps5
  go_wp2_with (first | (go_at_call 9; (with_reducible refine (formelaw10_head.calls k  t481 _ A3.out).mono ?_); rintro e w45 ⟨rfl, hb⟩; have n0_ := Aside0.mk (below_step z1_ hb); clear HB; have HB := n0_; clear n0_; (try clear hb); (try clear hb2); (try clear hk); (try clear hi)) | (go_at_call 27; (with_reducible refine (formelaw10_usable.calls k _ _ l0 false _ ?side1 ?side2 A4.out).mono ?_); (case side1 => exact z3_); (case side2 => exact HC0.out); rintro e w46 ⟨rfl, hb⟩; have n0_ := Aside0.mk (below_step z1_ hb); clear HB; have HB := n0_; clear n0_; (try clear hb); (try clear hb2); (try clear hk); (try clear hi)))
  repeat (go_quiet (first | (go_at_call 9; (with_reducible refine (formelaw10_head.calls k  t481 _ A3.out).mono ?_); rintro e w45 ⟨rfl, hb⟩; have n0_ := Aside0.mk (below_step z1_ hb); clear HB; have HB := n0_; clear n0_; (try clear hb); (try clear hb2); (try clear hk); (try clear hi)) | (go_at_call 27; (with_reducible refine (formelaw10_usable.calls k _ _ l0 false _ ?side1 ?side2 A4.out).mono ?_); (case side1 => exact z3_); (case side2 => exact HC0.out); rintro e w46 ⟨rfl, hb⟩; have n0_ := Aside0.mk (below_step z1_ hb); clear HB; have HB := n0_; clear n0_; (try clear hb); (try clear hb2); (try clear hk); (try clear hi))); try go_wp2_with (first | (go_at_call 9; (with_reducible refine (formelaw10_head.calls k  t481 _ A3.out).mono ?_); rintro e w45 ⟨rfl, hb⟩; have n0_ := Aside0.mk (below_step z1_ hb); clear HB; have HB := n0_; clear n0_; (try clear hb); (try clear hb2); (try clear hk); (try clear hi)) | (go_at_call 27; (with_reducible refine (formelaw10_usable.calls k _ _ l0 false _ ?side1 ?side2 A4.out).mono ?_); (case side1 => exact z3_); (case side2 => exact HC0.out); rintro e w46 ⟨rfl, hb⟩; have n0_ := Aside0.mk (below_step z1_ hb); clear HB; have HB := n0_; clear n0_; (try clear hb); (try clear hb2); (try clear hk); (try clear hi))))
  go_ret
  exact ⟨by first | rfl | (simp [errW_none, errW_some] <;> rfl) | (simp [*, errW_none, errW_some] <;> rfl), by repeat (first | (with_reducible first | exact HB.out | apply below_alloc | apply pw_below_drewN | apply below_drew1) | exact HB.out)⟩
end Go.Proofs.Ytpafhhgoldenoaa.P
end
section
namespace Go.Proofs.Ytpafhhgoldenoaa.P
open Go.RowKit Go.Proofs.YtpafhhgoldenoaaW.PrintWords Go.Proofs.YtpafhhgoldenoaaW.PrintLast Go.Proofs.YtpafhhgoldenoaaW.PrintMore
open Go.Proofs.Ytpafhhgoldenoaa.XM
set_option linter.unusedVariables false
set_option linter.unusedSimpArgs false
variable {l : List S24} {ds : Nat → Int} {D : Places}
theorem up_of (T : TreeAt l ds) {j k : Nat} (hj : j < l.length) (hk : k < j) (e : (nd l k).f0 = (nd l j).f1) : upIdx l j = some k :=
 upIdx_some hk e (fun m hm c => by
  have := T.inj (j := m) (k := k) (by omega) (by omega) (c.trans e.symm)
  omega)
theorem pathUp_more (T : TreeAt l ds) : ∀ (j n : Nat), j < l.length → j ≤ n → pathUp l n j = pathUp l j j := by
 intro j
 induction j using Nat.strongRecOn with
 | ind j ih =>
  intro n hj hn
  by_cases h0 : j = 0
  ·subst h0
   cases n with
   | zero => rfl
   | succ n => simp only [pathUp]; rw [if_pos (show (rd_T24 l ((0 : Nat) : Int)).f1 = 0 from T.root.1)]
  ·obtain ⟨k, hk, e, _, _⟩ := T.par j hj (by omega)
   have hu := up_of T hj hk e
   have hp : ¬ ((rd_T24 l (j : Int)).f1 = 0) := by
    have := T.id (j := k) (by omega)
    intro c
    have e' : (nd l k).f0 = (rd_T24 l (j : Int)).f1 := e
    omega
   obtain ⟨n, rfl⟩ : ∃ q, n = q + 1 := ⟨n - 1, by omega⟩
   obtain ⟨j', rfl⟩ : ∃ q, j = q + 1 := ⟨j - 1, by omega⟩
   simp only [pathUp]
   rw [if_neg hp, hu]
   simp only
   rw [ih k (by omega) n (by omega) (by omega), ih k (by omega) j' (by omega) (by omega), if_neg hp]
theorem path_root (T : TreeAt l ds) : pathP l 0 = [(nd l 0).f0] := rfl
theorem path_step (T : TreeAt l ds) {j : Nat} (hj : j < l.length) (h0 : 0 < j) : ∃ k, k < j ∧ (nd l k).f0 = (nd l j).f1 ∧ ds j = ds k + 1 ∧ pathP l j = pathP l k ++ [(nd l j).f0] := by
 obtain ⟨k, hk, e, _, e2⟩ := T.par j hj h0
 refine ⟨k, hk, e, e2, ?_⟩
 have hu := up_of T hj hk e
 have hp : ¬ ((rd_T24 l (j : Int)).f1 = 0) := by
  have := T.id (j := k) (by omega)
  intro c
  have e' : (nd l k).f0 = (rd_T24 l (j : Int)).f1 := e
  omega
 unfold pathP
 obtain ⟨j', rfl⟩ : ∃ q, j = q + 1 := ⟨j - 1, by omega⟩
 simp only [pathUp]
 rw [if_neg hp, hu]
 simp only
 rw [pathUp_more T k j' (by omega) (by omega), List.reverse_cons]
theorem path_all (T : TreeAt l ds) : ∀ j, j < l.length → ((pathP l j).length : Int) = ds j ∧ rd (pathP l j) 0 = (nd l 0).f0 ∧ rd (pathP l j) (((pathP l j).length - 1 : Nat) : Int) = (nd l j).f0 ∧
  ∀ q : Nat, q < (pathP l j).length → ∃ m, m < l.length ∧ rd (pathP l j) (q : Int) = (nd l m).f0 ∧ (0 < q → (nd l m).f1 = rd (pathP l j) ((q - 1 : Nat) : Int)) := by
 intro j
 induction j using Nat.strongRecOn with
 | ind j ih =>
  intro hj
  by_cases h0 : j = 0
  ·subst h0
   rw [path_root T]
   refine ⟨by rw [T.d0]; rfl, rfl, rfl, fun q hq => ⟨0, hj, ?_, fun h => by simp at hq; omega⟩⟩
   obtain rfl : q = 0 := by simp at hq; omega
   rfl
  ·obtain ⟨k, hk, e, e2, hp⟩ := path_step T hj (by omega)
   obtain ⟨i1, i2, i3, i4⟩ := ih k hk (by omega)
   have hd := T.dpos k (by omega)
   have hl0 : 0 < (pathP l k).length := by omega
   rw [hp]
   refine ⟨by simp; omega, ?_, ?_, fun q hq => ?_⟩
   ·exact (rd_snoc _ _ 0 hl0).trans i2
   ·simpa using rd_snoc_last (pathP l k) (nd l j).f0
   ·by_cases c : q < (pathP l k).length
    ·obtain ⟨m, m1, m2, m3⟩ := i4 q c
     refine ⟨m, m1, by rw [rd_snoc _ _ q c, m2], fun h => ?_⟩
     rw [rd_snoc _ _ (q - 1) (by omega)]
     exact m3 h
    ·obtain rfl : q = (pathP l k).length := by simp at hq; omega
     refine ⟨j, hj, rd_snoc_last _ _, fun h => ?_⟩
     rw [rd_snoc _ _ ((pathP l k).length - 1) (by omega), i3, e]
end Go.Proofs.Ytpafhhgoldenoaa.P
end
section
namespace Go.Proofs.Ytpafhhgoldenoaa.P
open Go.RowKit Go.Proofs.YtpafhhgoldenoaaW.PrintWords Go.Proofs.YtpafhhgoldenoaaW.PrintLast Go.Proofs.YtpafhhgoldenoaaW.PrintMore
open Go.Proofs.Ytpafhhgoldenoaa.XM
set_option linter.unusedVariables false
set_option linter.unusedSimpArgs false
variable {l : List S24} {ds : Nat → Int} {D : Places}
def inB (l : List S24) (id : Int) (j : Nat) : Bool := decide (id ∈ pathP l j)
def selP (l : List S24) (p : Nat → Bool) (i : Nat) : List S24 := ((List.range i).filter p).map (nd l)
theorem selP_succ (l : List S24) (p : Nat → Bool) (i : Nat) : selP l p (i + 1) = if p i = true then selP l p i ++ [nd l i] else selP l p i := by
 unfold selP
 rw [List.range_succ, List.filter_append]
 by_cases h : p i = true <;> simp [h]
theorem in_own (T : TreeAt l ds) {j : Nat} (hj : j < l.length) : inB l (nd l j).f0 j = true := by
 obtain ⟨p1, p2, p3, p4⟩ := path_all T j hj
 have := (T.dpos j hj).1
 unfold inB
 rw [decide_eq_true_eq, ← p3]
 have hlt : (pathP l j).length - 1 < (pathP l j).length := by omega
 simp [rd, hlt]
theorem in_step (T : TreeAt l ds) {j k : Nat} (hj : j < l.length) (hk : k < j) (e : (nd l k).f0 = (nd l j).f1) (id : Int) : inB l id j = (inB l id k || decide (id = (nd l j).f0)) := by
 obtain ⟨k', hk', e', _, hp⟩ := path_step T hj (by omega)
 obtain rfl := T.inj (j := k') (k := k) (by omega) (by omega) (e'.trans e.symm)
 unfold inB
 rw [hp]
 rw [Bool.eq_iff_iff]
 simp
theorem in_root (T : TreeAt l ds) (id : Int) : inB l id 0 = decide (id = (nd l 0).f0) := by
 unfold inB
 rw [path_root T]
 rw [Bool.eq_iff_iff]
 simp
def HasInv (l : List S24) (id : Int) (i : Nat) (D : IdSet) : Prop := ∀ x, hasB D x = true ↔ (x = id ∨ ∃ m, m < i ∧ inB l id m = true ∧ x = (nd l m).f0)
theorem hasB_put (D : IdSet) (x y : Int) : hasB (mput D x true) y = (decide (x = y) || hasB D y) := by
 unfold hasB
 rw [mlook_mput]
 by_cases h : x = y <;> simp [h]
theorem spGo_sel (T : TreeAt l ds) (id : Int) (hid : 1 ≤ id) : ∀ (d i : Nat) (D : IdSet), i ≤ l.length → l.length - i ≤ d → HasInv l id i D →
  spGo (l.drop i) D (selP l (fun j => !inB l id j) i) (selP l (inB l id) i) = (selP l (fun j => !inB l id j) l.length, selP l (inB l id) l.length) := by
 intro d
 induction d with
 | zero =>
  intro i D hi hd hD
  obtain rfl : i = l.length := by omega
  rw [List.drop_length]
  rfl
 | succ d ih =>
  intro i D hi hd hD
  by_cases hlt : i < l.length
  ·rw [drop_nd l i hlt]
   have key : (hasB D (nd l i).f0 || hasB D (nd l i).f1) = inB l id i := by
    have a0 : hasB D (nd l i).f0 = true ↔ (nd l i).f0 = id := by
     rw [hD]
     constructor
     ·rintro (h | ⟨m, hm, _, h⟩)
      ·exact h
      ·exact absurd h.symm (T.ids m i hm hlt)
     ·exact .inl
    by_cases h0 : i = 0
    ·subst h0
     have a1 : hasB D (nd l 0).f1 = false := by
      rw [Bool.eq_false_iff, Ne, hD, T.root.1]
      rintro (h | ⟨m, hm, _⟩) <;> omega
     rw [a1, Bool.or_false, in_root T, Bool.eq_iff_iff, a0, decide_eq_true_eq]
     exact eq_comm
    ·obtain ⟨k, hk, e, _, _⟩ := T.par i hlt (by omega)
     have a1 : hasB D (nd l i).f1 = true ↔ inB l id k = true := by
      rw [hD, ← e]
      constructor
      ·rintro (h | ⟨m, hm, hm2, h⟩)
       ·rw [← h]; exact in_own T (by omega)
       ·obtain rfl := T.inj (j := k) (k := m) (by omega) (by omega) h
        exact hm2
      ·exact fun h => .inr ⟨k, hk, h, rfl⟩
     rw [in_step T hlt hk e id, Bool.eq_iff_iff, Bool.or_eq_true, Bool.or_eq_true, a0, a1, decide_eq_true_eq]
     constructor
     ·rintro (h | h)
      ·exact .inr h.symm
      ·exact .inl h
     ·rintro (h | h)
      ·exact .inr h
      ·exact .inl h.symm
   simp only [spGo]
   rw [key]
   by_cases hb : inB l id i = true
   ·rw [if_pos hb]
    have e1 : selP l (fun j => !inB l id j) (i + 1) = selP l (fun j => !inB l id j) i := by rw [selP_succ, if_neg (by simp [hb])]
    have e2 : selP l (inB l id) (i + 1) = selP l (inB l id) i ++ [nd l i] := by rw [selP_succ, if_pos hb]
    rw [← e1, ← e2]
    refine ih (i + 1) _ hlt (by omega) (fun x => ?_)
    rw [hasB_put, Bool.or_eq_true, decide_eq_true_eq, hD]
    constructor
    ·rintro (h | h | ⟨m, hm, hm2, h⟩)
     ·exact .inr ⟨i, by omega, hb, h.symm⟩
     ·exact .inl h
     ·exact .inr ⟨m, by omega, hm2, h⟩
    ·rintro (h | ⟨m, hm, hm2, h⟩)
     ·exact .inr (.inl h)
     ·by_cases e : m = i
      ·subst e; exact .inl h.symm
      ·exact .inr (.inr ⟨m, by omega, hm2, h⟩)
   ·rw [if_neg hb]
    have e1 : selP l (fun j => !inB l id j) (i + 1) = selP l (fun j => !inB l id j) i ++ [nd l i] := by rw [selP_succ, if_pos (by simp [hb])]
    have e2 : selP l (inB l id) (i + 1) = selP l (inB l id) i := by rw [selP_succ, if_neg hb]
    rw [← e1, ← e2]
    refine ih (i + 1) _ hlt (by omega) (fun x => ?_)
    rw [hD]
    constructor
    ·rintro (h | ⟨m, hm, hm2, h⟩)
     ·exact .inl h
     ·exact .inr ⟨m, by omega, hm2, h⟩
    ·rintro (h | ⟨m, hm, hm2, h⟩)
     ·exact .inl h
     ·by_cases e : m = i
      ·subst e; exact absurd hm2 hb
      ·exact .inr ⟨m, by omega, hm2, h⟩
  ·obtain rfl : i = l.length := by omega
   rw [List.drop_length]
   rfl
theorem split_sel (T : TreeAt l ds) (id : Int) (hid : 1 ≤ id) : splitP l id = (selP l (fun j => !inB l id j) l.length, selP l (inB l id) l.length) := by
 have := spGo_sel T id hid l.length 0 [(id, true)] (by omega) (by omega) (fun x => by
  have e : hasB [(id, true)] x = decide (id = x) := by
   unfold hasB
   rw [mlook_cons, mlook_nil]
   by_cases h : id = x <;> simp [h]
  rw [e, decide_eq_true_eq]
  constructor
  ·exact fun h => .inl h.symm
  ·rintro (h | ⟨m, hm, _⟩)
   ·exact h.symm
   ·omega)
 simpa [splitP, selP] using this
end Go.Proofs.Ytpafhhgoldenoaa.P
end
section
namespace Go.Proofs.Ytpafhhgoldenoaa.P
open Go.RowKit Go.Proofs.YtpafhhgoldenoaaW.PrintWords Go.Proofs.YtpafhhgoldenoaaW.PrintLast Go.Proofs.YtpafhhgoldenoaaW.PrintMore
attribute [local go_sem] max2_int min2_int max_two min_two max_three min_three max_four min_four
set_option linter.unusedVariables false
set_option linter.unusedSimpArgs false
def formeref10_Has.l0 : Nat → List Int → Int → Int → Option (Bool)
 | 0, _, _, _ => none
 | k + 1, x0, x1, x5 => if x5 < (x0.length : Int) then (if 0 ≤ x5 then (if (rd x0 x5) = x1 then (some true) else (formeref10_Has.l0 k x0 x1 (wrap64 (x5 + 1)))) else (none)) else (some false)
def formeref10_Has.f (k : Nat) (l0 : List Int) (a1 : Int) : Option (Bool) := formeref10_Has.l0 k l0 a1 0
theorem formeref10_Has.mono_l : ∀ k, (∀ y0 y1 y2, LeO (formeref10_Has.l0 k y0 y1 y2) (formeref10_Has.l0 (k + 1) y0 y1 y2))
 | 0 => fun _ _ _ r h => by simp [formeref10_Has.l0] at h
 | k + 1 => by
  have ih0 := formeref10_Has.mono_l k
  ·intro y0 y1 y2
   unfold formeref10_Has.l0
   repeat' first
   | (with_reducible exact ih0 _ _ _)
   | (with_reducible exact LeO.refl _)
   | (with_reducible exact LeO.none _)
   | (with_reducible refine LeO.ite ?_ ?_)
   | (with_reducible refine LeO.bind ?_ (fun _ => ?_))
   | exact ih0 _ _ _
   | exact LeO.none _
   | refine LeO.ite ?_ ?_
   | refine LeO.bind ?_ (fun _ => ?_)
theorem formeref10_Has.mono : ∀ a0 a1 k, LeO (formeref10_Has.f k a0 a1) (formeref10_Has.f (k + 1) a0 a1) := by
 intro a0 a1 k
 have ih0 := formeref10_Has.mono_l k
 unfold formeref10_Has.f
 repeat' first
   | (with_reducible exact ih0 _ _ _)
   | (with_reducible exact LeO.refl _)
   | (with_reducible exact LeO.none _)
   | (with_reducible refine LeO.ite ?_ ?_)
   | (with_reducible refine LeO.bind ?_ (fun _ => ?_))
   | exact ih0 _ _ _
   | exact LeO.none _
   | refine LeO.ite ?_ ?_
   | refine LeO.bind ?_ (fun _ => ?_)
set_option maxHeartbeats 8000000 in
set_option maxRecDepth 100000 in
theorem formeref10_Has.calls (k : Nat) (A0 : Option Addr) (c0 : Nat) (l0 : List Int) (a1 : Int) (r : Bool) (w : World) (hr0 : Kd.C (Kd.int .i64) w A0 l0.length l0) (hc0 : l0.length ≤ c0) (h : formeref10_Has.f k l0 a1 = some r) :
  Calls Try.prog 29 #[.slice A0 l0.length c0, .int .i64 a1] w fun e w' => e = .returned (.bool r) ∧ Drawn0 w w' := by
 have HR0 := Aside0.mk hr0
 have HC0 := Aside0.mk hc0
 clear hr0 hc0
 have H : (formeref10_Has.l0 k l0 a1 0) = some r := h
 clear h
 have H' := Aside0.mk H
 clear H
 go_enter Try.func29, Try.ntmps29
 go_wp2
 go_loopg [5] k (fun kq v5 w' => ∃ (x5_1 : Int), v5 = .int .i64 x5_1 ∧ Aside0 (formeref10_Has.l0 kq l0 a1 x5_1 = some r) ∧ Aside0 (kq ≤ k) ∧ Drawn0 w w')
 case atStart => exact ⟨(0), z9_, H', ⟨Nat.le_refl _⟩, by repeat (first | exact Drawn0.refl _ | apply Drawn0.step)⟩
 case round =>
  clear H'
  try clear c2
  try clear p2
  obtain ⟨x5_1, rfl, HA, HK1, ⟨m1, rfl⟩⟩ := hrel
  cases gk with
  | zero => exact absurd HA.out (by simp [formeref10_Has.l0])
  | succ k1 =>
   have H := HA.out
   clear HA
   simp only [formeref10_Has.l0] at H
   by_cases c3 : x5_1 < (l0.length : Int)
   ·rw [if_pos c3] at H
    have c3b0 : decide (x5_1 < (l0.length : Int)) = true := decide_eq_true c3
    clear c3
    by_cases c4 : 0 ≤ x5_1
    rotate_left
    ·rw [if_neg c4] at H; exact absurd H (by simp)
    rw [if_pos c4] at H
    have c4b0 : decide (0 ≤ x5_1) = true := decide_eq_true c4
    clear c4
    by_cases c5 : (rd l0 x5_1) = a1
    ·rw [if_pos c5] at H
     have c5b0 : ((rd l0 x5_1) == a1) = true := beq_iff_eq.mpr c5
     have c5b1 : ((rd l0 x5_1) != a1) = false := bne_eq_false_iff_eq.mpr c5
     clear c5
     obtain rfl := Option.some.inj H
     have p285 : 0 ≤ (x5_1 : Int) := of_decide_eq_true z4_
     have q285 : x5_1 < (l0.length : Int) := of_decide_eq_true z4_
     obtain ⟨ad285, e285, hx285_0⟩ := Kd.at_int HR0.out x5_1 p285 q285
     cases e285
     replace p285 := eq_true p285
     replace q285 := eq_true q285
     go_wp2
     go_ret
     exact ⟨by first | rfl | (simp; done) | (simp [*]; done), by repeat (first | exact Drawn0.refl _ | apply Drawn0.step)⟩
    ·rw [if_neg c5] at H
     have c5b0 : ((rd l0 x5_1) == a1) = false := beq_eq_false_iff_ne.mpr c5
     have c5b1 : ((rd l0 x5_1) != a1) = true := bne_iff_ne.mpr c5
     have H' := Aside0.mk H
     clear H
     have p285 : 0 ≤ (x5_1 : Int) := of_decide_eq_true z4_
     have q285 : x5_1 < (l0.length : Int) := of_decide_eq_true z4_
     obtain ⟨ad285, e285, hx285_0⟩ := Kd.at_int HR0.out x5_1 p285 q285
     cases e285
     replace p285 := eq_true p285
     replace q285 := eq_true q285
     go_wp2
     go_roundg k1
     case measure => have := HK1.out; omega
     case rel => exact ⟨(wrap64 (x5_1 + 1)), z9_, H', ⟨by have := HK1.out; omega⟩, by repeat (first | exact Drawn0.refl _ | apply Drawn0.step)⟩
   ·rw [if_neg c3] at H
    have c3b0 : decide (x5_1 < (l0.length : Int)) = false := decide_eq_false c3
    clear c3
    obtain rfl := Option.some.inj H
    go_wp2
    go_ret
    exact ⟨by first | rfl | (simp; done) | (simp [*]; done), by repeat (first | exact Drawn0.refl _ | apply Drawn0.step)⟩
end Go.Proofs.Ytpafhhgoldenoaa.P
end
section
namespace Go.Proofs.Ytpafhhgoldenoaa.P
open Go.RowKit Go.Proofs.YtpafhhgoldenoaaW.PrintWords Go.Proofs.YtpafhhgoldenoaaW.PrintLast Go.Proofs.YtpafhhgoldenoaaW.PrintMore
attribute [local go_sem] max2_int min2_int max_two min_two max_three min_three max_four min_four
set_option linter.unusedVariables false
set_option linter.unusedSimpArgs false
def formeref10_Children.l0 : Nat → List (S24) → Int → List Int → Int → Option (List Int)
 | 0, _, _, _, _ => none
 | k + 1, x0, x1, x5, x6 => if x6 < (x0.length : Int) then (if 0 ≤ x6 then (if ((rd_T24 x0 x6).f1) = x1 then (if x5.length < 17592186044416 then (formeref10_Children.l0 k x0 x1 (x5 ++ [(rd_T24 x0 x6).f0]) (wrap64 (x6 + 1))) else (none)) else (formeref10_Children.l0 k x0 x1 x5 (wrap64 (x6 + 1)))) else (none)) else (some x5)
def formeref10_Children.f (k : Nat) (l0 : List (S24)) (a1 : Int) : Option (List Int) := formeref10_Children.l0 k l0 a1 ([] : List Int) 0
theorem formeref10_Children.mono_l : ∀ k, (∀ y0 y1 y2 y3, LeO (formeref10_Children.l0 k y0 y1 y2 y3) (formeref10_Children.l0 (k + 1) y0 y1 y2 y3))
 | 0 => fun _ _ _ _ r h => by simp [formeref10_Children.l0] at h
 | k + 1 => by
  have ih0 := formeref10_Children.mono_l k
  ·intro y0 y1 y2 y3
   unfold formeref10_Children.l0
   repeat' first
   | (with_reducible exact ih0 _ _ _ _)
   | (with_reducible exact LeO.refl _)
   | (with_reducible exact LeO.none _)
   | (with_reducible refine LeO.ite ?_ ?_)
   | (with_reducible refine LeO.bind ?_ (fun _ => ?_))
   | exact ih0 _ _ _ _
   | exact LeO.none _
   | refine LeO.ite ?_ ?_
   | refine LeO.bind ?_ (fun _ => ?_)
theorem formeref10_Children.mono : ∀ a0 a1 k, LeO (formeref10_Children.f k a0 a1) (formeref10_Children.f (k + 1) a0 a1) := by
 intro a0 a1 k
 have ih0 := formeref10_Children.mono_l k
 unfold formeref10_Children.f
 repeat' first
   | (with_reducible exact ih0 _ _ _ _)
   | (with_reducible exact LeO.refl _)
   | (with_reducible exact LeO.none _)
   | (with_reducible refine LeO.ite ?_ ?_)
   | (with_reducible refine LeO.bind ?_ (fun _ => ?_))
   | exact ih0 _ _ _ _
   | exact LeO.none _
   | refine LeO.ite ?_ ?_
   | refine LeO.bind ?_ (fun _ => ?_)
set_option maxHeartbeats 8000000 in
set_option maxRecDepth 100000 in
theorem formeref10_Children.calls (k : Nat) (A0 : Option Addr) (c0 : Nat) (l0 : List (S24)) (a1 : Int) (r : List Int) (w : World) (hr0 : Kd.C k24 w A0 l0.length l0) (hc0 : l0.length ≤ c0) (h : formeref10_Children.f k l0 a1 = some r) :
  Calls Try.prog 39 #[.slice A0 l0.length c0, .int .i64 a1] w fun e w' => ∃ v0_ : Value, e = .returned (v0_) ∧ Kd.R (Kd.int .i64) 3 w' w.heap.size (fun _ => True) v0_ r ∧ Below w.heap.size w w' := by
 have HR0 := Aside0.mk hr0
 have HC0 := Aside0.mk hc0
 clear hr0 hc0
 have HB := Aside0.mk (Below.refl w.heap.size w)
 have H : (formeref10_Children.l0 k l0 a1 ([] : List Int) 0) = some r := h
 clear h
 have H' := Aside0.mk H
 clear H
 go_enter Try.func39, Try.ntmps39
 go_wp2
 go_loopg [5, 6] k (fun kq v5 v6 w' => ∃ (x5_1 : List Int) (x6_1 : Int), v6 = .int .i64 x6_1 ∧ Aside0 (formeref10_Children.l0 kq l0 a1 x5_1 x6_1 = some r) ∧ Aside0 (kq ≤ k) ∧ Aside0 (Kd.R (Kd.int .i64) 3 w' w.heap.size (fun _ => True) v5 x5_1) ∧ Aside0 (Below w.heap.size w w'))
 case atStart => exact ⟨(([] : List Int)), (0), z9_, H', ⟨Nat.le_refl _⟩, ⟨by first | exact Kd.R_nil _ _ _ _ _ | exact Kd.N_nil _ _ _ _ _ | exact Kd.V_nil _ _ _ _ _ | exact Kd.Q_nil _ _ _ _ _ | exact Kd.S_nil _ _ _ _ _⟩, ⟨by repeat (first | (with_reducible first | exact HB.out | apply below_alloc | apply pw_below_drewN | apply below_drew1) | exact HB.out)⟩⟩
 case round =>
  clear H'
  try clear p2
  obtain ⟨x5_1, x6_1, rfl, HA, HK1, HO_5, HB⟩ := hrel
  cases gk with
  | zero => exact absurd HA.out (by simp [formeref10_Children.l0])
  | succ k1 =>
   have H := HA.out
   clear HA
   simp only [formeref10_Children.l0] at H
   by_cases c3 : x6_1 < (l0.length : Int)
   ·rw [if_pos c3] at H
    have c3b0 : decide (x6_1 < (l0.length : Int)) = true := decide_eq_true c3
    clear c3
    by_cases c4 : 0 ≤ x6_1
    rotate_left
    ·rw [if_neg c4] at H; exact absurd H (by simp)
    rw [if_pos c4] at H
    have c4b0 : decide (0 ≤ x6_1) = true := decide_eq_true c4
    clear c4
    by_cases c5 : ((rd_T24 l0 x6_1).f1) = a1
    ·rw [if_pos c5] at H
     have c5b0 : (((rd_T24 l0 x6_1).f1) == a1) = true := beq_iff_eq.mpr c5
     have c5b1 : (((rd_T24 l0 x6_1).f1) != a1) = false := bne_eq_false_iff_eq.mpr c5
     clear c5
     by_cases c6 : x5_1.length < 17592186044416
     rotate_left
     ·rw [if_neg c6] at H; exact absurd H (by simp)
     rw [if_pos c6] at H
     have LMc6 := Aside0.mk c6
     clear c6
     obtain ⟨y262, hy262⟩ : ∃ y_ : List Int, y_ = (x5_1 ++ [(rd_T24 l0 x6_1).f0]) := ⟨_, rfl⟩
     replace H : (formeref10_Children.l0 k1 l0 a1 y262 (wrap64 (x6_1 + 1))) = some r := by first | (rw [hy262]; with_reducible exact H) | (have H2_ := (Option.bind_some _ _).symm.trans H; rw [hy262]; with_reducible exact H2_) | (have H2_ := (Option.bind_some _ _).symm.trans H; with_reducible exact H2_) | with_reducible exact H | (rw [hy262]; exact H) | exact H
     have Ny262 := Aside0.mk hy262
     clear hy262
     have H' := Aside0.mk H
     clear H
     have p260 : 0 ≤ (x6_1 : Int) := of_decide_eq_true z4_
     have q260 : x6_1 < (l0.length : Int) := of_decide_eq_true z4_
     obtain ⟨ad260, e260, hx260_0, hx260_1, hx260_2, hx260_3, hx260_4⟩ := at_T24 HR0.out x6_1 p260 q260
     cases e260
     replace hx260_0 := hbc_ HB.out hx260_0
     replace hx260_1 := hbc_ HB.out hx260_1
     replace hx260_2 := hbc_ HB.out hx260_2
     replace hx260_3 := hbc_ HB.out hx260_3
     replace hx260_4 := hbc_ HB.out hx260_4
     replace p260 := eq_true p260
     replace q260 := eq_true q260
     have p261 : 0 ≤ (x6_1 : Int) := of_decide_eq_true z4_
     have q261 : x6_1 < (l0.length : Int) := of_decide_eq_true z4_
     obtain ⟨ad261, e261, hx261_0, hx261_1, hx261_2, hx261_3, hx261_4⟩ := at_T24 HR0.out x6_1 p261 q261
     obtain rfl : ad260 = ad261 := (by injection e261)
     replace hx261_0 := hbc_ HB.out hx261_0
     replace hx261_1 := hbc_ HB.out hx261_1
     replace hx261_2 := hbc_ HB.out hx261_2
     replace hx261_3 := hbc_ HB.out hx261_3
     replace hx261_4 := hbc_ HB.out hx261_4
     replace p261 := eq_true p261
     replace q261 := eq_true q261
     go_wp2_with (first | ((with_reducible refine gate_builtin (b := .append) (xs := #[.tmp 20, .tmp 26]) rfl ?_); at_builtin; refine Kd.R_append (Kd.int .i64) (w0 := w) w.heap.size rfl (.tmp 20) (.tmp 26) 30 3 (.int .i64 0) 8 rfl Try.underlying30 info3 rfl (by decide) (by omega) u5 x5_1 ((rd_T24 l0 x6_1).f0) [.int .i64 ((rd_T24 l0 x6_1).f0)] (fun _ => True) (fun _ => False) rfl rfl ?aP (fun _ hk => hk.elim) ?aF ?aO ?aB ?aS ?aL ?_; (case aP => exact rfl); (case aB => exact z1_); (case aF => exact (fun _ _ => trivial)); (case aO => exact z43_); (case aS => exact (below_size z1_)); (case aL => have := LMc6.out; omega); intro v263 w7 ho hb hg hat; rw [← Ny262.out] at ho; have n0_ := Aside0.mk (hb); have n1_ := Aside0.mk (ho); clear HB; clear HO_5; have HB := n0_; have HO264 := n1_; clear n0_ n1_; clear ho hb hg hat))
     go_roundg k1
     case measure => have := HK1.out; omega
     case rel => exact ⟨(y262), (wrap64 (x6_1 + 1)), z9_, H', ⟨by have := HK1.out; omega⟩, ⟨by (with_reducible repeat (first | apply Kd.R_alloc | apply Kd.R_drewN | apply Kd.R_drew)); exact HO264.out⟩, ⟨by repeat (first | (with_reducible first | exact HB.out | apply below_alloc | apply pw_below_drewN | apply below_drew1) | exact HB.out)⟩⟩
    ·rw [if_neg c5] at H
     have c5b0 : (((rd_T24 l0 x6_1).f1) == a1) = false := beq_eq_false_iff_ne.mpr c5
     have c5b1 : (((rd_T24 l0 x6_1).f1) != a1) = true := bne_iff_ne.mpr c5
     have H' := Aside0.mk H
     clear H
     have p260 : 0 ≤ (x6_1 : Int) := of_decide_eq_true z4_
     have q260 : x6_1 < (l0.length : Int) := of_decide_eq_true z4_
     obtain ⟨ad260, e260, hx260_0, hx260_1, hx260_2, hx260_3, hx260_4⟩ := at_T24 HR0.out x6_1 p260 q260
     cases e260
     replace hx260_0 := hbc_ HB.out hx260_0
     replace hx260_1 := hbc_ HB.out hx260_1
     replace hx260_2 := hbc_ HB.out hx260_2
     replace hx260_3 := hbc_ HB.out hx260_3
     replace hx260_4 := hbc_ HB.out hx260_4
     replace p260 := eq_true p260
     replace q260 := eq_true q260
     go_wp2
     go_roundg k1
     case measure => have := HK1.out; omega
     case rel => exact ⟨(x5_1), (wrap64 (x6_1 + 1)), z9_, H', ⟨by have := HK1.out; omega⟩, ⟨by (with_reducible repeat (first | apply Kd.R_alloc | apply Kd.R_drewN | apply Kd.R_drew)); exact HO_5.out⟩, ⟨by repeat (first | (with_reducible first | exact HB.out | apply below_alloc | apply pw_below_drewN | apply below_drew1) | exact HB.out)⟩⟩
   ·rw [if_neg c3] at H
    have c3b0 : decide (x6_1 < (l0.length : Int)) = false := decide_eq_false c3
    clear c3
    obtain rfl := Option.some.inj H
    go_wp2
    go_ret
    exact ⟨_, by first | rfl | (simp [errW_none, errW_some] <;> rfl) | (simp [*, errW_none, errW_some] <;> rfl), by (with_reducible repeat (first | apply Kd.R_alloc | apply Kd.R_drewN | apply Kd.R_drew)); exact HO_5.out, by repeat (first | (with_reducible first | exact HB.out | apply below_alloc | apply pw_below_drewN | apply below_drew1) | exact HB.out)⟩
end Go.Proofs.Ytpafhhgoldenoaa.P
end
section
namespace Go.Proofs.Ytpafhhgoldenoaa.P
open Go.RowKit Go.Proofs.YtpafhhgoldenoaaW.PrintWords Go.Proofs.YtpafhhgoldenoaaW.PrintLast Go.Proofs.YtpafhhgoldenoaaW.PrintMore
open Go.Proofs.Ytpafhhgoldenoaa.XM
set_option linter.unusedVariables false
set_option linter.unusedSimpArgs false
theorem refHas_go (p : List Int) (x : Int) (hp : p.length ≤ 1000000) : ∀ (d i : Nat), i ≤ p.length → p.length - i ≤ d → Ev (fun k => formeref10_Has.l0 k p x i) (decide (x ∈ p.drop i)) := by
 intro d
 induction d with
 | zero =>
  intro i hi hd
  refine Ev.up ?_
  simp only [formeref10_Has.l0]
  refine Ev.els (by omega) (Ev.const ?_)
  rw [List.drop_eq_nil_of_le (by omega)]
  simp
 | succ d ih =>
  intro i hi hd
  refine Ev.up ?_
  simp only [formeref10_Has.l0]
  by_cases hlt : i < p.length
  ·refine Ev.thn (by omega) (Ev.thn (by omega) ?_)
   have e : rd p (i : Int) = p[i] := by simp [rd, hlt]
   rw [e, List.drop_eq_getElem_cons hlt]
   by_cases he : p[i] = x
   ·refine Ev.thn he (Ev.const ?_)
    simp [he]
   ·refine Ev.els he ?_
    rw [w64n i (by omega)]
    have := ih (i + 1) hlt (by omega)
    have e2 : decide (x ∈ p[i] :: p.drop (i + 1)) = decide (x ∈ p.drop (i + 1)) := by
     generalize p.drop (i + 1) = U
     rw [Bool.eq_iff_iff, decide_eq_true_eq, decide_eq_true_eq, List.mem_cons]
     exact ⟨fun c => c.elim (fun c => absurd c.symm he) (fun c => c), .inr⟩
    rw [e2]
    exact this
  ·refine Ev.els (by omega) (Ev.const ?_)
   rw [List.drop_eq_nil_of_le (by omega)]
   simp
theorem refHas (p : List Int) (x : Int) (hp : p.length ≤ 1000000) : Ev (fun k => formeref10_Has.f k p x) (decide (x ∈ p)) := by
 simpa [formeref10_Has.f] using refHas_go p x hp p.length 0 (by omega) (by omega)
theorem refSame_go (a : List S24) (ha : a.length ≤ 1000000) : ∀ (d i : Nat), i ≤ a.length → a.length - i ≤ d → Ev (fun k => formeref10_Same.l0 k a a i) true := by
 intro d
 induction d with
 | zero =>
  intro i hi hd
  refine Ev.up ?_
  simp only [formeref10_Same.l0]
  exact Ev.els (by omega) (Ev.now _)
 | succ d ih =>
  intro i hi hd
  refine Ev.up ?_
  simp only [formeref10_Same.l0]
  by_cases hlt : i < a.length
  ·refine Ev.thn (by omega) (Ev.thn (by omega) (Ev.thn (by omega) (Ev.els (by simp) ?_)))
   rw [w64n i (by omega)]
   exact ih (i + 1) hlt (by omega)
  ·exact Ev.els (by omega) (Ev.now _)
theorem refSame (a : List S24) (ha : a.length ≤ 1000000) : Ev (fun k => formeref10_Same.f k a a) true := by
 simp only [formeref10_Same.f]
 exact Ev.thn trivial (refSame_go a ha a.length 0 (by omega) (by omega))
theorem refSameInts_go (a : List Int) (ha : a.length ≤ 1000000) : ∀ (d i : Nat), i ≤ a.length → a.length - i ≤ d → Ev (fun k => formeref10_SameInts.l0 k a a i) true := by
 intro d
 induction d with
 | zero =>
  intro i hi hd
  refine Ev.up ?_
  simp only [formeref10_SameInts.l0]
  exact Ev.els (by omega) (Ev.now _)
 | succ d ih =>
  intro i hi hd
  refine Ev.up ?_
  simp only [formeref10_SameInts.l0]
  by_cases hlt : i < a.length
  ·refine Ev.thn (by omega) (Ev.thn (by omega) (Ev.thn (by omega) (Ev.thn trivial ?_)))
   rw [w64n i (by omega)]
   exact ih (i + 1) hlt (by omega)
  ·exact Ev.els (by omega) (Ev.now _)
theorem refSameInts (a : List Int) (ha : a.length ≤ 1000000) : Ev (fun k => formeref10_SameInts.f k a a) true := by
 simp only [formeref10_SameInts.f]
 exact Ev.thn trivial (refSameInts_go a ha a.length 0 (by omega) (by omega))
theorem refChildren_go (l : List S24) (a : Int) (hl : l.length ≤ 4000) : ∀ (d i : Nat) (acc : List Int), i ≤ l.length → l.length - i ≤ d → acc.length ≤ i → Ev (fun k => formeref10_Children.l0 k l a acc i) (acc ++ kidsL (l.drop i) a) := by
 intro d
 induction d with
 | zero =>
  intro i acc hi hd ha
  refine Ev.up ?_
  simp only [formeref10_Children.l0]
  refine Ev.els (by omega) (Ev.const ?_)
  rw [List.drop_eq_nil_of_le (by omega)]
  simp [kidsL]
 | succ d ih =>
  intro i acc hi hd ha
  refine Ev.up ?_
  simp only [formeref10_Children.l0]
  by_cases hlt : i < l.length
  ·refine Ev.thn (by omega) (Ev.thn (by omega) ?_)
   rw [drop_nd l i hlt]
   by_cases he : (nd l i).f1 = a
   ·refine Ev.thn he (Ev.thn (by omega) ?_)
    rw [w64n i (by omega)]
    have := ih (i + 1) (acc ++ [(nd l i).f0]) hlt (by omega) (by simp; omega)
    have e : acc ++ kidsL (nd l i :: l.drop (i + 1)) a = acc ++ [(nd l i).f0] ++ kidsL (l.drop (i + 1)) a := by
     generalize l.drop (i + 1) = U
     simp [kidsL, he]
    rw [e]
    exact this
   ·refine Ev.els he ?_
    rw [w64n i (by omega)]
    have := ih (i + 1) acc hlt (by omega) (by omega)
    have e : acc ++ kidsL (nd l i :: l.drop (i + 1)) a = acc ++ kidsL (l.drop (i + 1)) a := by
     generalize l.drop (i + 1) = U
     simp [kidsL, he]
    rw [e]
    exact this
  ·refine Ev.els (by omega) (Ev.const ?_)
   rw [List.drop_eq_nil_of_le (by omega)]
   simp [kidsL]
theorem refChildren (l : List S24) (a : Int) (hl : l.length ≤ 4000) : Ev (fun k => formeref10_Children.f k l a) (kidsL l a) := by
 simpa [formeref10_Children.f] using refChildren_go l a hl l.length 0 [] (by omega) (by omega) (by simp)
end Go.Proofs.Ytpafhhgoldenoaa.P
end
section
namespace Go.Proofs.Ytpafhhgoldenoaa.P
open Go.RowKit Go.Proofs.YtpafhhgoldenoaaW.PrintWords Go.Proofs.YtpafhhgoldenoaaW.PrintLast Go.Proofs.YtpafhhgoldenoaaW.PrintMore
attribute [local go_sem] max2_int min2_int max_two min_two max_three min_three max_four min_four
set_option linter.unusedVariables false
set_option linter.unusedSimpArgs false
def formeref10_Find.f (k : Nat) (l0 : List (S24)) (a1 : Int) : Option (Int × Bool × Int) := (formeref10_Valid.f k l0).bind fun t257 => (if t257 = true then ((formeref10_ID.f a1).bind fun t258 => (if t258 = true then ((formeref10_Index.f k l0 a1).bind fun t259 => (some (mx t259 0, decide (t259 ≥ 0), 0))) else (some (0, false, 1)))) else (some (0, false, 1)))
theorem formeref10_Find.mono : ∀ a0 a1 k, LeO (formeref10_Find.f k a0 a1) (formeref10_Find.f (k + 1) a0 a1) := by
 intro a0 a1 k
 unfold formeref10_Find.f
 repeat' first
   | (with_reducible exact formeref10_Index.mono _ _ _)
   | (with_reducible exact formeref10_Valid.mono _ _)
   | (with_reducible exact LeO.refl _)
   | (with_reducible exact LeO.none _)
   | (with_reducible refine LeO.ite ?_ ?_)
   | (with_reducible refine LeO.bind ?_ (fun _ => ?_))
   | exact formeref10_Index.mono _ _ _
   | exact formeref10_Valid.mono _ _
   | exact LeO.none _
   | refine LeO.ite ?_ ?_
   | refine LeO.bind ?_ (fun _ => ?_)
set_option maxHeartbeats 8000000 in
set_option maxRecDepth 100000 in
theorem formeref10_Find.calls (k : Nat) (A0 : Option Addr) (c0 : Nat) (l0 : List (S24)) (a1 : Int) (r1 : Int) (r2 : Bool) (r3 : Int) (w : World) (hr0 : Kd.C k24 w A0 l0.length l0) (hc0 : l0.length ≤ c0) (h : formeref10_Find.f k l0 a1 = some (r1, r2, r3)) :
  Calls Try.prog 12 #[.slice A0 l0.length c0, .int .i64 a1] w fun e w' => e = .returned (.tuple #[.int .i64 r1, .bool r2, .int .i64 r3]) ∧ Below w.heap.size w w' := by
 have HR0 := Aside0.mk hr0
 have HC0 := Aside0.mk hc0
 clear hr0 hc0
 have HB := Aside0.mk (Below.refl w.heap.size w)
 have H : ((formeref10_Valid.f k l0).bind fun t257 => (if t257 = true then ((formeref10_ID.f a1).bind fun t258 => (if t258 = true then ((formeref10_Index.f k l0 a1).bind fun t259 => (some (mx t259 0, decide (t259 ≥ 0), 0))) else (some (0, false, 1)))) else (some (0, false, 1)))) = some (r1, r2, r3) := h
 clear h
 replace H := Option.bind_eq_some_iff.mp H
 obtain ⟨t257, A30, H⟩ := H
 try dsimp only at H
 have A3 := Aside0.mk A30
 clear A30
 by_cases c4 : t257 = true
 ·subst c4
  have H1 : ((formeref10_ID.f a1).bind fun t258 => (if t258 = true then ((formeref10_Index.f k l0 a1).bind fun t259 => (some (mx t259 0, decide (t259 ≥ 0), 0))) else (some (0, false, 1)))) = some (r1, r2, r3) := by rw [if_pos rfl] at H; exact H
  clear H
  have H := H1
  clear H1
  replace H := Option.bind_eq_some_iff.mp H
  obtain ⟨t258, A50, H⟩ := H
  try dsimp only at H
  have A5 := Aside0.mk A50
  clear A50
  by_cases c6 : t258 = true
  ·subst c6
   have H1 : ((formeref10_Index.f k l0 a1).bind fun t259 => (some (mx t259 0, decide (t259 ≥ 0), 0))) = some (r1, r2, r3) := by rw [if_pos rfl] at H; exact H
   clear H
   have H := H1
   clear H1
   replace H := Option.bind_eq_some_iff.mp H
   obtain ⟨t259, A70, H⟩ := H
   try dsimp only at H
   have A7 := Aside0.mk A70
   clear A70
   obtain ⟨ji8, hji8⟩ : ∃ j_ : Int, (mx t259 0) = j_ := ⟨_, rfl⟩
   replace H : (some (ji8, decide (t259 ≥ 0), 0)) = some (r1, r2, r3) := by first | (rw [hji8] at H; exact H) | (simp only [hji8] at H ⊢; exact H)
   (try rw [hji8] at A3)
   (try rw [hji8] at A5)
   (try rw [hji8] at A7)
   (try (have hji8l : 0 ≤ ji8 := by (rw [← hji8]; unfold mx; (repeat' split) <;> omega)))
   (try (have hji8m : 0 ≤ ji8 := by omega))
   have hji8_ : (if t259 < 0 then 0 else t259) = ji8 := hji8
   simp only [Option.some.injEq, Prod.mk.injEq] at H
   obtain ⟨rfl, rfl, rfl⟩ := H
   go_enter Try.func12, Try.ntmps12
   go_wp2_with (first | ((with_reducible refine gate_callee (f := 14) rfl ?_); refine goesL_ (some 10) rfl rfl Try.func14 (by kernel_rfl) rfl #[.slice A0 l0.length c0] rfl z2_ ?_; (with_reducible refine (formeref10_Valid.calls k _ _ l0 true _ ?side1 ?side2 A3.out).mono ?_); (case side1 => exact z7_); (case side2 => exact HC0.out); rintro e w9 ⟨rfl, hb⟩; refine ⟨_, rfl, ?_⟩; have n0_ := Aside0.mk (below_step z1_ hb); clear HB; have HB := n0_; clear n0_; (try clear hb); (try clear hb2); (try clear hk); (try clear hi)) | (go_at_call 33; (with_reducible refine (formeref10_ID.calls a1 true _ A5.out).mono ?_); rintro e w' ⟨rfl, ⟨nd, rfl⟩⟩) | ((with_reducible refine gate_callee (f := 34) rfl ?_); refine goesL_ (some 20) rfl rfl Try.func34 (by kernel_rfl) rfl #[.slice A0 l0.length c0, .int .i64 a1] rfl z2_ ?_; (with_reducible refine (formeref10_Index.calls k _ _ l0 a1 t259 _ ?side1 ?side2 A7.out).mono ?_); (case side1 => exact z35_); (case side2 => exact HC0.out); rintro e w' ⟨rfl, ⟨nd, rfl⟩⟩; refine ⟨_, rfl, ?_⟩))
   go_ret3
   exact ⟨by first | rfl | (simp [errW_none, errW_some] <;> rfl) | (simp only [← hji8]; first | rfl | (simp [errW_none, errW_some] <;> rfl)) | (simp [*, errW_none, errW_some] <;> rfl), by repeat (first | (with_reducible first | exact HB.out | apply below_alloc | apply pw_below_drewN | apply below_drew1) | exact HB.out)⟩
  ·replace c6 := Bool.eq_false_iff.mpr c6
   subst c6
   have H1 : (some (0, false, 1)) = some (r1, r2, r3) := by rw [if_neg (show ¬ (false = true) by decide)] at H; exact H
   clear H
   have H := H1
   clear H1
   simp only [Option.some.injEq, Prod.mk.injEq] at H
   obtain ⟨rfl, rfl, rfl⟩ := H
   go_enter Try.func12, Try.ntmps12
   go_wp2_with (first | ((with_reducible refine gate_callee (f := 14) rfl ?_); refine goesL_ (some 10) rfl rfl Try.func14 (by kernel_rfl) rfl #[.slice A0 l0.length c0] rfl z2_ ?_; (with_reducible refine (formeref10_Valid.calls k _ _ l0 true _ ?side1 ?side2 A3.out).mono ?_); (case side1 => exact z7_); (case side2 => exact HC0.out); rintro e w10 ⟨rfl, hb⟩; refine ⟨_, rfl, ?_⟩; have n0_ := Aside0.mk (below_step z1_ hb); clear HB; have HB := n0_; clear n0_; (try clear hb); (try clear hb2); (try clear hk); (try clear hi)) | (go_at_call 33; (with_reducible refine (formeref10_ID.calls a1 false _ A5.out).mono ?_); rintro e w' ⟨rfl, ⟨nd, rfl⟩⟩))
   go_ret3
   exact ⟨by first | rfl | (simp [errW_none, errW_some] <;> rfl) | (simp [*, errW_none, errW_some] <;> rfl), by repeat (first | (with_reducible first | exact HB.out | apply below_alloc | apply pw_below_drewN | apply below_drew1) | exact HB.out)⟩
 ·replace c4 := Bool.eq_false_iff.mpr c4
  subst c4
  have H1 : (some (0, false, 1)) = some (r1, r2, r3) := by rw [if_neg (show ¬ (false = true) by decide)] at H; exact H
  clear H
  have H := H1
  clear H1
  simp only [Option.some.injEq, Prod.mk.injEq] at H
  obtain ⟨rfl, rfl, rfl⟩ := H
  go_enter Try.func12, Try.ntmps12
  go_wp2_with (first | ((with_reducible refine gate_callee (f := 14) rfl ?_); refine goesL_ (some 10) rfl rfl Try.func14 (by kernel_rfl) rfl #[.slice A0 l0.length c0] rfl z2_ ?_; (with_reducible refine (formeref10_Valid.calls k _ _ l0 false _ ?side1 ?side2 A3.out).mono ?_); (case side1 => exact z7_); (case side2 => exact HC0.out); rintro e w11 ⟨rfl, hb⟩; refine ⟨_, rfl, ?_⟩; have n0_ := Aside0.mk (below_step z1_ hb); clear HB; have HB := n0_; clear n0_; (try clear hb); (try clear hb2); (try clear hk); (try clear hi)))
  go_ret3
  exact ⟨by first | rfl | (simp [errW_none, errW_some] <;> rfl) | (simp [*, errW_none, errW_some] <;> rfl), by repeat (first | (with_reducible first | exact HB.out | apply below_alloc | apply pw_below_drewN | apply below_drew1) | exact HB.out)⟩
end Go.Proofs.Ytpafhhgoldenoaa.P
end
section
namespace Go.Proofs.Ytpafhhgoldenoaa.P
open Go.RowKit Go.Proofs.YtpafhhgoldenoaaW.PrintWords Go.Proofs.YtpafhhgoldenoaaW.PrintLast Go.Proofs.YtpafhhgoldenoaaW.PrintMore
attribute [local go_sem] max2_int min2_int max_two min_two max_three min_three max_four min_four
set_option linter.unusedVariables false
set_option linter.unusedSimpArgs false
def formeref10_Kids.f (k : Nat) (l0 : List (S24)) (a1 : Int) : Option (List Int × Int) := (formeref10_Find.f k l0 a1).bind fun bt265 => (if bt265.2.2 = 0 then (if bt265.2.1 = true then ((formeref10_Children.f k l0 a1).bind fun t268 => (some (t268, 0))) else (some (([] : List Int), 4))) else (some (([] : List Int), bt265.2.2)))
theorem formeref10_Kids.mono : ∀ a0 a1 k, LeO (formeref10_Kids.f k a0 a1) (formeref10_Kids.f (k + 1) a0 a1) := by
 intro a0 a1 k
 unfold formeref10_Kids.f
 repeat' first
   | (with_reducible exact formeref10_Children.mono _ _ _)
   | (with_reducible exact formeref10_Find.mono _ _ _)
   | (with_reducible exact LeO.refl _)
   | (with_reducible exact LeO.none _)
   | (with_reducible refine LeO.ite ?_ ?_)
   | (with_reducible refine LeO.bind ?_ (fun _ => ?_))
   | exact formeref10_Children.mono _ _ _
   | exact formeref10_Find.mono _ _ _
   | exact LeO.none _
   | refine LeO.ite ?_ ?_
   | refine LeO.bind ?_ (fun _ => ?_)
set_option maxHeartbeats 8000000 in
set_option maxRecDepth 100000 in
theorem formeref10_Kids.calls (k : Nat) (A0 : Option Addr) (c0 : Nat) (l0 : List (S24)) (a1 : Int) (r1 : List Int) (r2 : Int) (w : World) (hr0 : Kd.C k24 w A0 l0.length l0) (hc0 : l0.length ≤ c0) (h : formeref10_Kids.f k l0 a1 = some (r1, r2)) :
  Calls Try.prog 16 #[.slice A0 l0.length c0, .int .i64 a1] w fun e w' => ∃ v0_ : Value, e = .returned (.tuple #[v0_, .int .i64 r2]) ∧ Kd.R (Kd.int .i64) 3 w' w.heap.size (fun _ => True) v0_ r1 ∧ Below w.heap.size w w' := by
 have HR0 := Aside0.mk hr0
 have HC0 := Aside0.mk hc0
 clear hr0 hc0
 have HB := Aside0.mk (Below.refl w.heap.size w)
 have H : ((formeref10_Find.f k l0 a1).bind fun bt265 => (if bt265.2.2 = 0 then (if bt265.2.1 = true then ((formeref10_Children.f k l0 a1).bind fun t268 => (some (t268, 0))) else (some (([] : List Int), 4))) else (some (([] : List Int), bt265.2.2)))) = some (r1, r2) := h
 clear h
 replace H := Option.bind_eq_some_iff.mp H
 obtain ⟨⟨t265, t266, t267⟩, A30, H⟩ := H
 try dsimp only at H
 have A3 := Aside0.mk A30
 clear A30
 by_cases c4 : t267 = 0
 ·rw [if_pos c4] at H
  have c4b0 : (t267 == 0) = true := beq_iff_eq.mpr c4
  have c4b1 : (t267 != 0) = false := bne_eq_false_iff_eq.mpr c4
  clear c4
  by_cases c5 : t266 = true
  ·subst c5
   have H1 : ((formeref10_Children.f k l0 a1).bind fun t268 => (some (t268, 0))) = some (r1, r2) := by rw [if_pos rfl] at H; exact H
   clear H
   have H := H1
   clear H1
   replace H := Option.bind_eq_some_iff.mp H
   obtain ⟨t268, A60, H⟩ := H
   try dsimp only at H
   have A6 := Aside0.mk A60
   clear A60
   simp only [Option.some.injEq, Prod.mk.injEq] at H
   obtain ⟨rfl, rfl⟩ := H
   go_enter Try.func16, Try.ntmps16
   go_wp2_with (first | ((with_reducible refine gate_callee (f := 12) rfl ?_); refine goesL_ (some 12) rfl rfl Try.func12 (by kernel_rfl) rfl #[.slice A0 l0.length c0, .int .i64 a1] rfl z2_ ?_; (with_reducible refine (formeref10_Find.calls k _ _ l0 a1 t265 true t267 _ ?side1 ?side2 A3.out).mono ?_); (case side1 => exact z7_); (case side2 => exact HC0.out); rintro e w7 ⟨rfl, hb⟩; refine ⟨_, rfl, ?_⟩; have n0_ := Aside0.mk (below_step z1_ hb); clear HB; have HB := n0_; clear n0_; (try clear hb); (try clear hb2); (try clear hk); (try clear hi)) | ((with_reducible refine gate_callee (f := 39) rfl ?_); refine goesL_ (some 23) rfl rfl Try.func39 (by kernel_rfl) rfl #[.slice A0 l0.length c0, .int .i64 a1] rfl z2_ ?_; (with_reducible refine (formeref10_Children.calls k _ _ l0 a1 t268 _ ?side1 ?side2 A6.out).mono ?_); (case side1 => exact z3_); (case side2 => exact HC0.out); rintro e w8 ⟨v269, rfl, ho0, hb⟩; refine ⟨_, rfl, ?_⟩; have n0_ := Aside0.mk (Kd.R_lower ho0 (below_size z1_)); have n1_ := Aside0.mk (below_step z1_ hb); clear HB; have HO270 := n0_; have HB := n1_; clear n0_ n1_; (try clear hb); (try clear hb2); (try clear hk); (try clear hi); (try clear ho0)))
   go_ret2
   exact ⟨_, by first | rfl | (simp [errW_none, errW_some] <;> rfl) | (simp [*, errW_none, errW_some] <;> rfl), by (with_reducible repeat (first | apply Kd.R_alloc | apply Kd.R_drewN | apply Kd.R_drew)); exact HO270.out, by repeat (first | (with_reducible first | exact HB.out | apply below_alloc | apply pw_below_drewN | apply below_drew1) | exact HB.out)⟩
  ·replace c5 := Bool.eq_false_iff.mpr c5
   subst c5
   have H1 : (some (([] : List Int), 4)) = some (r1, r2) := by rw [if_neg (show ¬ (false = true) by decide)] at H; exact H
   clear H
   have H := H1
   clear H1
   simp only [Option.some.injEq, Prod.mk.injEq] at H
   obtain ⟨rfl, rfl⟩ := H
   go_enter Try.func16, Try.ntmps16
   go_wp2_with (first | ((with_reducible refine gate_callee (f := 12) rfl ?_); refine goesL_ (some 12) rfl rfl Try.func12 (by kernel_rfl) rfl #[.slice A0 l0.length c0, .int .i64 a1] rfl z2_ ?_; (with_reducible refine (formeref10_Find.calls k _ _ l0 a1 t265 false t267 _ ?side1 ?side2 A3.out).mono ?_); (case side1 => exact z7_); (case side2 => exact HC0.out); rintro e w9 ⟨rfl, hb⟩; refine ⟨_, rfl, ?_⟩; have n0_ := Aside0.mk (below_step z1_ hb); clear HB; have HB := n0_; clear n0_; (try clear hb); (try clear hb2); (try clear hk); (try clear hi)))
   go_ret2
   exact ⟨_, by first | rfl | (simp [errW_none, errW_some] <;> rfl) | (simp [*, errW_none, errW_some] <;> rfl), by first | exact Kd.R_nil _ _ _ _ _ | exact Kd.N_nil _ _ _ _ _ | exact Kd.V_nil _ _ _ _ _ | exact Kd.Q_nil _ _ _ _ _ | exact Kd.S_nil _ _ _ _ _, by repeat (first | (with_reducible first | exact HB.out | apply below_alloc | apply pw_below_drewN | apply below_drew1) | exact HB.out)⟩
 ·rw [if_neg c4] at H
  have c4b0 : (t267 == 0) = false := beq_eq_false_iff_ne.mpr c4
  have c4b1 : (t267 != 0) = true := bne_iff_ne.mpr c4
  simp only [Option.some.injEq, Prod.mk.injEq] at H
  obtain ⟨rfl, rfl⟩ := H
  go_enter Try.func16, Try.ntmps16
  go_wp2_with (first | ((with_reducible refine gate_callee (f := 12) rfl ?_); refine goesL_ (some 12) rfl rfl Try.func12 (by kernel_rfl) rfl #[.slice A0 l0.length c0, .int .i64 a1] rfl z2_ ?_; (with_reducible refine (formeref10_Find.calls k _ _ l0 a1 t265 t266 t267 _ ?side1 ?side2 A3.out).mono ?_); (case side1 => exact z7_); (case side2 => exact HC0.out); rintro e w10 ⟨rfl, hb⟩; refine ⟨_, rfl, ?_⟩; have n0_ := Aside0.mk (below_step z1_ hb); clear HB; have HB := n0_; clear n0_; (try clear hb); (try clear hb2); (try clear hk); (try clear hi)))
  go_ret2
  exact ⟨_, by first | rfl | (simp [errW_none, errW_some] <;> rfl) | (simp [*, errW_none, errW_some] <;> rfl), by first | exact Kd.R_nil _ _ _ _ _ | exact Kd.N_nil _ _ _ _ _ | exact Kd.V_nil _ _ _ _ _ | exact Kd.Q_nil _ _ _ _ _ | exact Kd.S_nil _ _ _ _ _, by repeat (first | (with_reducible first | exact HB.out | apply below_alloc | apply pw_below_drewN | apply below_drew1) | exact HB.out)⟩
end Go.Proofs.Ytpafhhgoldenoaa.P
end
section
namespace Go.Proofs.Ytpafhhgoldenoaa.P
open Go.RowKit Go.Proofs.YtpafhhgoldenoaaW.PrintWords Go.Proofs.YtpafhhgoldenoaaW.PrintLast Go.Proofs.YtpafhhgoldenoaaW.PrintMore
attribute [local go_sem] max2_int min2_int max_two min_two max_three min_three max_four min_four
set_option linter.unusedVariables false
set_option linter.unusedSimpArgs false
def formeref10_Way.l0 : Nat → List (S24) → Int → List Int → Option (List Int)
 | 0, _, _, _ => none
 | k + 1, x0, x1, x5 => if x1 = 0 then (some x5) else ((some (([x1] : List Int) : List Int)).bind fun y271 => (if y271.length + x5.length < 17592186044416 then ((formeref10_Index.f k x0 x1).bind fun t277 => (if 0 ≤ t277 then (if t277 < (x0.length : Int) then (formeref10_Way.l0 k x0 ((rd_T24 x0 t277).f1) (y271 ++ x5)) else (none)) else (none))) else (none)))
def formeref10_Way.f (k : Nat) (l0 : List (S24)) (a1 : Int) : Option (List Int) := formeref10_Way.l0 k l0 a1 ([] : List Int)
theorem formeref10_Way.mono_l : ∀ k, (∀ y0 y1 y2, LeO (formeref10_Way.l0 k y0 y1 y2) (formeref10_Way.l0 (k + 1) y0 y1 y2))
 | 0 => fun _ _ _ r h => by simp [formeref10_Way.l0] at h
 | k + 1 => by
  have ih0 := formeref10_Way.mono_l k
  ·intro y0 y1 y2
   unfold formeref10_Way.l0
   repeat' first
   | (with_reducible exact ih0 _ _ _)
   | (with_reducible exact formeref10_Index.mono _ _ _)
   | (with_reducible exact LeO.refl _)
   | (with_reducible exact LeO.none _)
   | (with_reducible refine LeO.ite ?_ ?_)
   | (with_reducible refine LeO.bind ?_ (fun _ => ?_))
   | exact ih0 _ _ _
   | exact formeref10_Index.mono _ _ _
   | exact LeO.none _
   | refine LeO.ite ?_ ?_
   | refine LeO.bind ?_ (fun _ => ?_)
theorem formeref10_Way.mono : ∀ a0 a1 k, LeO (formeref10_Way.f k a0 a1) (formeref10_Way.f (k + 1) a0 a1) := by
 intro a0 a1 k
 have ih0 := formeref10_Way.mono_l k
 unfold formeref10_Way.f
 repeat' first
   | (with_reducible exact ih0 _ _ _)
   | (with_reducible exact formeref10_Index.mono _ _ _)
   | (with_reducible exact LeO.refl _)
   | (with_reducible exact LeO.none _)
   | (with_reducible refine LeO.ite ?_ ?_)
   | (with_reducible refine LeO.bind ?_ (fun _ => ?_))
   | exact ih0 _ _ _
   | exact formeref10_Index.mono _ _ _
   | exact LeO.none _
   | refine LeO.ite ?_ ?_
   | refine LeO.bind ?_ (fun _ => ?_)
set_option maxHeartbeats 8000000 in
set_option maxRecDepth 100000 in
theorem formeref10_Way.calls (k : Nat) (A0 : Option Addr) (c0 : Nat) (l0 : List (S24)) (a1 : Int) (r : List Int) (w : World) (hr0 : Kd.C k24 w A0 l0.length l0) (hc0 : l0.length ≤ c0) (h : formeref10_Way.f k l0 a1 = some r) :
  Calls Try.prog 41 #[.slice A0 l0.length c0, .int .i64 a1] w fun e w' => ∃ v0_ : Value, e = .returned (v0_) ∧ Kd.R (Kd.int .i64) 3 w' w.heap.size (fun _ => True) v0_ r ∧ Below w.heap.size w w' := by
 have HR0 := Aside0.mk hr0
 have HC0 := Aside0.mk hc0
 clear hr0 hc0
 have HB := Aside0.mk (Below.refl w.heap.size w)
 have H : (formeref10_Way.l0 k l0 a1 ([] : List Int)) = some r := h
 clear h
 have H' := Aside0.mk H
 clear H
 go_enter Try.func41, Try.ntmps41
 go_wp2
 go_loopg [1, 5] k (fun kq v1 v5 w' => ∃ (x1_1 : Int) (x5_1 : List Int), v1 = .int .i64 x1_1 ∧ Aside0 (formeref10_Way.l0 kq l0 x1_1 x5_1 = some r) ∧ Aside0 (kq ≤ k) ∧ Aside0 (Kd.R (Kd.int .i64) 3 w' w.heap.size (fun _ => True) v5 x5_1) ∧ Aside0 (Below w.heap.size w w'))
 case atStart => exact ⟨(a1), (([] : List Int)), z9_, H', ⟨Nat.le_refl _⟩, ⟨by first | exact Kd.R_nil _ _ _ _ _ | exact Kd.N_nil _ _ _ _ _ | exact Kd.V_nil _ _ _ _ _ | exact Kd.Q_nil _ _ _ _ _ | exact Kd.S_nil _ _ _ _ _⟩, ⟨by repeat (first | (with_reducible first | exact HB.out | apply below_alloc | apply pw_below_drewN | apply below_drew1) | exact HB.out)⟩⟩
 case round =>
  clear H'
  try clear p2
  obtain ⟨x1_1, x5_1, rfl, HA, HK1, HO_5, HB⟩ := hrel
  cases gk with
  | zero => exact absurd HA.out (by simp [formeref10_Way.l0])
  | succ k1 =>
   have H := HA.out
   clear HA
   simp only [formeref10_Way.l0] at H
   by_cases c3 : x1_1 = 0
   ·rw [if_pos c3] at H
    have c3b0 : (x1_1 == 0) = true := beq_iff_eq.mpr c3
    have c3b1 : (x1_1 != 0) = false := bne_eq_false_iff_eq.mpr c3
    clear c3
    obtain rfl := Option.some.inj H
    go_wp2
    go_ret
    exact ⟨_, by first | rfl | (simp [errW_none, errW_some] <;> rfl) | (simp [*, errW_none, errW_some] <;> rfl), by (with_reducible repeat (first | apply Kd.R_alloc | apply Kd.R_drewN | apply Kd.R_drew)); exact HO_5.out, by repeat (first | (with_reducible first | exact HB.out | apply below_alloc | apply pw_below_drewN | apply below_drew1) | exact HB.out)⟩
   ·rw [if_neg c3] at H
    have c3b0 : (x1_1 == 0) = false := beq_eq_false_iff_ne.mpr c3
    have c3b1 : (x1_1 != 0) = true := bne_iff_ne.mpr c3
    obtain ⟨y271, hy271⟩ : ∃ y_ : List Int, y_ = (([x1_1] : List Int)) := ⟨_, rfl⟩
    replace H : (if y271.length + x5_1.length < 17592186044416 then ((formeref10_Index.f k1 l0 x1_1).bind fun t277 => (if 0 ≤ t277 then (if t277 < (l0.length : Int) then (formeref10_Way.l0 k1 l0 ((rd_T24 l0 t277).f1) (y271 ++ x5_1)) else (none)) else (none))) else (none)) = some r := by first | (rw [hy271]; with_reducible exact H) | (have H2_ := (Option.bind_some _ _).symm.trans H; rw [hy271]; with_reducible exact H2_) | (have H2_ := (Option.bind_some _ _).symm.trans H; with_reducible exact H2_) | with_reducible exact H | (rw [hy271]; exact H) | exact H
    have Ny271 := Aside0.mk hy271
    clear hy271
    by_cases c4 : y271.length + x5_1.length < 17592186044416
    ·rw [if_pos c4] at H
     have LMc4 := Aside0.mk c4
     clear c4
     obtain ⟨y274, hy274⟩ : ∃ y_ : List Int, y_ = (y271 ++ x5_1) := ⟨_, rfl⟩
     replace H : ((formeref10_Index.f k1 l0 x1_1).bind fun t277 => (if 0 ≤ t277 then (if t277 < (l0.length : Int) then (formeref10_Way.l0 k1 l0 ((rd_T24 l0 t277).f1) y274) else (none)) else (none))) = some r := by first | (rw [hy274]; with_reducible exact H) | (have H2_ := (Option.bind_some _ _).symm.trans H; rw [hy274]; with_reducible exact H2_) | (have H2_ := (Option.bind_some _ _).symm.trans H; with_reducible exact H2_) | with_reducible exact H | (rw [hy274]; exact H) | exact H
     have Ny274 := Aside0.mk hy274
     clear hy274
     replace H := Option.bind_eq_some_iff.mp H
     obtain ⟨t277, A50, H⟩ := H
     try dsimp only at H
     have A5 := Aside0.mk A50
     clear A50
     by_cases c6 : 0 ≤ t277
     rotate_left
     ·rw [if_neg c6] at H; exact absurd H (by simp)
     rw [if_pos c6] at H
     have c6b0 : decide (0 ≤ t277) = true := decide_eq_true c6
     clear c6
     by_cases c7 : t277 < (l0.length : Int)
     rotate_left
     ·rw [if_neg c7] at H; exact absurd H (by simp)
     rw [if_pos c7] at H
     have c7b0 : decide (t277 < (l0.length : Int)) = true := decide_eq_true c7
     clear c7
     have H' := Aside0.mk H
     clear H
     go_wp2_with (first | ((with_reducible refine gate_dst (N := 9) rfl ?_); refine Kd.R_lit (Kd.int .i64) _ 3 ?hg (N := 9) ?hd (xs := ([x1_1] : List Int)) (inner := [.int .i64 x1_1]) (ok := fun _ => True) (okp := fun _ => True) ?hr ?hp (fun _ hk => hk) trivial (Below.refl _ _) (Nat.le_refl _) (by simp) ?_; (case hd => rfl); (case hg => rfl); (case hr => exact z13_); (case hp => exact (Reps.one (show Kd.M (Kd.int .i64) _ _ _ x1_1 [.int .i64 x1_1] from rfl) (Reps.none _ _))); intro v272 w8 ho9 hb hg_ hnew_; clear hg_ hnew_; (first | rw [← Ny271.out] at ho9 | (simp only [Int.reduceToNat] at ho9; rw [← Ny271.out] at ho9)); have n0_ := Aside0.mk (Kd.R_elder' z43_ (Kd.R_base ho9) hb); have n1_ := Aside0.mk (Kd.R_lower (Kd.R_new' ho9 (Kd.R_lt z43_)) (below_size z1_)); have n2_ := Aside0.mk (below_step z1_ hb); clear HO_5; clear HB; have HO_5 := n0_; have HO273 := n1_; have HB := n2_; clear n0_ n1_ n2_; clear hb ho9; obtain ⟨Ao11, co11, eo11⟩ := Kd.R_slice HO_5.out; subst eo11) | ((with_reducible refine gate_builtin (b := .append) (xs := #[.tmp 9, .tmp 10]) rfl ?_); at_builtin; refine Kd.R_append_rows (Kd.int .i64) (w0 := w) w.heap.size rfl (.tmp 9) (.tmp 10) 30 3 (.int .i64 0) 8 rfl Try.underlying30 info3 rfl (by decide) (by omega) v272 y271 x5_1 _ _ _ (fun k_ => some k_ ≠ (.slice Ao11 x5_1.length co11 : Value).ownBlock) (fun _ => False) rfl rfl ?aO ?aR (fun _ _ h => h) (fun _ h => h.elim) ?aF ?aB ?aS ?aL ?_; (case aR => repeat (first | exact (Kd.R_reads' HO_5.out).2.2 | (with_reducible refine Kd.C_alloc ?_ _) | (with_reducible refine Kd.C_drewN ?_ _) | (with_reducible refine Kd.C_drew ?_))); (case aB => exact z1_); (case aF => exact (fun k_ hk => Kd.fresh' (Kd.R_lt z43_) k_ hk)); (case aO => exact (by (with_reducible repeat (first | apply Kd.R_alloc | apply Kd.R_drewN | apply Kd.R_drew)); exact Kd.R_mono HO273.out (fun _ hk => hk.2))); (case aS => exact (below_size z1_)); (case aL => have := LMc4.out; omega); intro v275 w10 ho hb hg hat; rw [← Ny274.out] at ho; have n0_ := Aside0.mk (Kd.R_after (ok := (fun _ => True)) z43_ hg hat); have n1_ := Aside0.mk (hb); have n2_ := Aside0.mk (ho); clear HO_5; clear HB; clear HO273; have HO_5 := n0_; have HB := n1_; have HO276 := n2_; clear n0_ n1_ n2_; clear ho hb hg hat) | ((with_reducible refine gate_callee (f := 34) rfl ?_); refine goesL_ (some 15) rfl rfl Try.func34 (by kernel_rfl) rfl #[.slice A0 l0.length c0, .int .i64 x1_1] rfl z2_ ?_; (with_reducible refine (formeref10_Index.calls k1 _ _ l0 x1_1 t277 _ ?side1 ?side2 A5.out).mono ?_); (case side1 => exact z3_); (case side2 => exact HC0.out); rintro e w' ⟨rfl, ⟨nd, rfl⟩⟩; refine ⟨_, rfl, ?_⟩; have p278 : 0 ≤ (t277 : Int) := of_decide_eq_true z4_; have q278 : t277 < (l0.length : Int) := of_decide_eq_true z4_; obtain ⟨ad278, e278, hx278_0, hx278_1, hx278_2, hx278_3, hx278_4⟩ := at_T24 HR0.out t277 p278 q278; cases e278; replace hx278_0 := hbc_ HB.out hx278_0; replace hx278_1 := hbc_ HB.out hx278_1; replace hx278_2 := hbc_ HB.out hx278_2; replace hx278_3 := hbc_ HB.out hx278_3; replace hx278_4 := hbc_ HB.out hx278_4; replace p278 := eq_true p278; replace q278 := eq_true q278))
     go_roundg k1
     case measure => have := HK1.out; omega
     case rel => exact ⟨((rd_T24 l0 t277).f1), (y274), z9_, H', ⟨by have := HK1.out; omega⟩, ⟨by (with_reducible repeat (first | apply Kd.R_alloc | apply Kd.R_drewN | apply Kd.R_drew)); exact Kd.R_mono HO276.out (fun _ hk => trivial)⟩, ⟨by repeat (first | (with_reducible first | exact HB.out | apply below_alloc | apply pw_below_drewN | apply below_drew1) | exact HB.out)⟩⟩
    ·rw [if_neg c4] at H
     exact absurd H (by simp)
end Go.Proofs.Ytpafhhgoldenoaa.P
end
section
namespace Go.Proofs.Ytpafhhgoldenoaa.P
open Go.RowKit Go.Proofs.YtpafhhgoldenoaaW.PrintWords Go.Proofs.YtpafhhgoldenoaaW.PrintLast Go.Proofs.YtpafhhgoldenoaaW.PrintMore
attribute [local go_sem] max2_int min2_int max_two min_two max_three min_three max_four min_four
set_option linter.unusedVariables false
set_option linter.unusedSimpArgs false
def formeref10_Path.f (k : Nat) (l0 : List (S24)) (a1 : Int) : Option (List Int × Int) := (formeref10_Find.f k l0 a1).bind fun bt279 => (if bt279.2.2 = 0 then (if bt279.2.1 = true then ((formeref10_Way.f k l0 a1).bind fun t282 => (some (t282, 0))) else (some (([] : List Int), 4))) else (some (([] : List Int), bt279.2.2)))
theorem formeref10_Path.mono : ∀ a0 a1 k, LeO (formeref10_Path.f k a0 a1) (formeref10_Path.f (k + 1) a0 a1) := by
 intro a0 a1 k
 unfold formeref10_Path.f
 repeat' first
   | (with_reducible exact formeref10_Find.mono _ _ _)
   | (with_reducible exact formeref10_Way.mono _ _ _)
   | (with_reducible exact LeO.refl _)
   | (with_reducible exact LeO.none _)
   | (with_reducible refine LeO.ite ?_ ?_)
   | (with_reducible refine LeO.bind ?_ (fun _ => ?_))
   | exact formeref10_Find.mono _ _ _
   | exact formeref10_Way.mono _ _ _
   | exact LeO.none _
   | refine LeO.ite ?_ ?_
   | refine LeO.bind ?_ (fun _ => ?_)
set_option maxHeartbeats 8000000 in
set_option maxRecDepth 100000 in
theorem formeref10_Path.calls (k : Nat) (A0 : Option Addr) (c0 : Nat) (l0 : List (S24)) (a1 : Int) (r1 : List Int) (r2 : Int) (w : World) (hr0 : Kd.C k24 w A0 l0.length l0) (hc0 : l0.length ≤ c0) (h : formeref10_Path.f k l0 a1 = some (r1, r2)) :
  Calls Try.prog 19 #[.slice A0 l0.length c0, .int .i64 a1] w fun e w' => ∃ v0_ : Value, e = .returned (.tuple #[v0_, .int .i64 r2]) ∧ Kd.R (Kd.int .i64) 3 w' w.heap.size (fun _ => True) v0_ r1 ∧ Below w.heap.size w w' := by
 have HR0 := Aside0.mk hr0
 have HC0 := Aside0.mk hc0
 clear hr0 hc0
 have HB := Aside0.mk (Below.refl w.heap.size w)
 have H : ((formeref10_Find.f k l0 a1).bind fun bt279 => (if bt279.2.2 = 0 then (if bt279.2.1 = true then ((formeref10_Way.f k l0 a1).bind fun t282 => (some (t282, 0))) else (some (([] : List Int), 4))) else (some (([] : List Int), bt279.2.2)))) = some (r1, r2) := h
 clear h
 replace H := Option.bind_eq_some_iff.mp H
 obtain ⟨⟨t279, t280, t281⟩, A30, H⟩ := H
 try dsimp only at H
 have A3 := Aside0.mk A30
 clear A30
 by_cases c4 : t281 = 0
 ·rw [if_pos c4] at H
  have c4b0 : (t281 == 0) = true := beq_iff_eq.mpr c4
  have c4b1 : (t281 != 0) = false := bne_eq_false_iff_eq.mpr c4
  clear c4
  by_cases c5 : t280 = true
  ·subst c5
   have H1 : ((formeref10_Way.f k l0 a1).bind fun t282 => (some (t282, 0))) = some (r1, r2) := by rw [if_pos rfl] at H; exact H
   clear H
   have H := H1
   clear H1
   replace H := Option.bind_eq_some_iff.mp H
   obtain ⟨t282, A60, H⟩ := H
   try dsimp only at H
   have A6 := Aside0.mk A60
   clear A60
   simp only [Option.some.injEq, Prod.mk.injEq] at H
   obtain ⟨rfl, rfl⟩ := H
   go_enter Try.func19, Try.ntmps19
   go_wp2_with (first | ((with_reducible refine gate_callee (f := 12) rfl ?_); refine goesL_ (some 12) rfl rfl Try.func12 (by kernel_rfl) rfl #[.slice A0 l0.length c0, .int .i64 a1] rfl z2_ ?_; (with_reducible refine (formeref10_Find.calls k _ _ l0 a1 t279 true t281 _ ?side1 ?side2 A3.out).mono ?_); (case side1 => exact z7_); (case side2 => exact HC0.out); rintro e w7 ⟨rfl, hb⟩; refine ⟨_, rfl, ?_⟩; have n0_ := Aside0.mk (below_step z1_ hb); clear HB; have HB := n0_; clear n0_; (try clear hb); (try clear hb2); (try clear hk); (try clear hi)) | ((with_reducible refine gate_callee (f := 41) rfl ?_); refine goesL_ (some 23) rfl rfl Try.func41 (by kernel_rfl) rfl #[.slice A0 l0.length c0, .int .i64 a1] rfl z2_ ?_; (with_reducible refine (formeref10_Way.calls k _ _ l0 a1 t282 _ ?side1 ?side2 A6.out).mono ?_); (case side1 => exact z3_); (case side2 => exact HC0.out); rintro e w8 ⟨v283, rfl, ho0, hb⟩; refine ⟨_, rfl, ?_⟩; have n0_ := Aside0.mk (Kd.R_lower ho0 (below_size z1_)); have n1_ := Aside0.mk (below_step z1_ hb); clear HB; have HO284 := n0_; have HB := n1_; clear n0_ n1_; (try clear hb); (try clear hb2); (try clear hk); (try clear hi); (try clear ho0)))
   go_ret2
   exact ⟨_, by first | rfl | (simp [errW_none, errW_some] <;> rfl) | (simp [*, errW_none, errW_some] <;> rfl), by (with_reducible repeat (first | apply Kd.R_alloc | apply Kd.R_drewN | apply Kd.R_drew)); exact HO284.out, by repeat (first | (with_reducible first | exact HB.out | apply below_alloc | apply pw_below_drewN | apply below_drew1) | exact HB.out)⟩
  ·replace c5 := Bool.eq_false_iff.mpr c5
   subst c5
   have H1 : (some (([] : List Int), 4)) = some (r1, r2) := by rw [if_neg (show ¬ (false = true) by decide)] at H; exact H
   clear H
   have H := H1
   clear H1
   simp only [Option.some.injEq, Prod.mk.injEq] at H
   obtain ⟨rfl, rfl⟩ := H
   go_enter Try.func19, Try.ntmps19
   go_wp2_with (first | ((with_reducible refine gate_callee (f := 12) rfl ?_); refine goesL_ (some 12) rfl rfl Try.func12 (by kernel_rfl) rfl #[.slice A0 l0.length c0, .int .i64 a1] rfl z2_ ?_; (with_reducible refine (formeref10_Find.calls k _ _ l0 a1 t279 false t281 _ ?side1 ?side2 A3.out).mono ?_); (case side1 => exact z7_); (case side2 => exact HC0.out); rintro e w9 ⟨rfl, hb⟩; refine ⟨_, rfl, ?_⟩; have n0_ := Aside0.mk (below_step z1_ hb); clear HB; have HB := n0_; clear n0_; (try clear hb); (try clear hb2); (try clear hk); (try clear hi)))
   go_ret2
   exact ⟨_, by first | rfl | (simp [errW_none, errW_some] <;> rfl) | (simp [*, errW_none, errW_some] <;> rfl), by first | exact Kd.R_nil _ _ _ _ _ | exact Kd.N_nil _ _ _ _ _ | exact Kd.V_nil _ _ _ _ _ | exact Kd.Q_nil _ _ _ _ _ | exact Kd.S_nil _ _ _ _ _, by repeat (first | (with_reducible first | exact HB.out | apply below_alloc | apply pw_below_drewN | apply below_drew1) | exact HB.out)⟩
 ·rw [if_neg c4] at H
  have c4b0 : (t281 == 0) = false := beq_eq_false_iff_ne.mpr c4
  have c4b1 : (t281 != 0) = true := bne_iff_ne.mpr c4
  simp only [Option.some.injEq, Prod.mk.injEq] at H
  obtain ⟨rfl, rfl⟩ := H
  go_enter Try.func19, Try.ntmps19
  go_wp2_with (first | ((with_reducible refine gate_callee (f := 12) rfl ?_); refine goesL_ (some 12) rfl rfl Try.func12 (by kernel_rfl) rfl #[.slice A0 l0.length c0, .int .i64 a1] rfl z2_ ?_; (with_reducible refine (formeref10_Find.calls k _ _ l0 a1 t279 t280 t281 _ ?side1 ?side2 A3.out).mono ?_); (case side1 => exact z7_); (case side2 => exact HC0.out); rintro e w10 ⟨rfl, hb⟩; refine ⟨_, rfl, ?_⟩; have n0_ := Aside0.mk (below_step z1_ hb); clear HB; have HB := n0_; clear n0_; (try clear hb); (try clear hb2); (try clear hk); (try clear hi)))
  go_ret2
  exact ⟨_, by first | rfl | (simp [errW_none, errW_some] <;> rfl) | (simp [*, errW_none, errW_some] <;> rfl), by first | exact Kd.R_nil _ _ _ _ _ | exact Kd.N_nil _ _ _ _ _ | exact Kd.V_nil _ _ _ _ _ | exact Kd.Q_nil _ _ _ _ _ | exact Kd.S_nil _ _ _ _ _, by repeat (first | (with_reducible first | exact HB.out | apply below_alloc | apply pw_below_drewN | apply below_drew1) | exact HB.out)⟩
end Go.Proofs.Ytpafhhgoldenoaa.P
end
section
namespace Go.Proofs.Ytpafhhgoldenoaa.P
open Go.RowKit Go.Proofs.YtpafhhgoldenoaaW.PrintWords Go.Proofs.YtpafhhgoldenoaaW.PrintLast Go.Proofs.YtpafhhgoldenoaaW.PrintMore
attribute [local go_sem] max2_int min2_int max_two min_two max_three min_three max_four min_four
set_option linter.unusedVariables false
set_option linter.unusedSimpArgs false
def formeref10_split.l0 : Nat → List (S24) → Int → List (S24) → List (S24) → Int → Option ((List (S24)) × (List (S24)))
 | 0, _, _, _, _, _ => none
 | k + 1, x0, x1, x6, x7, x8 => if x8 < (x0.length : Int) then (if 0 ≤ x8 then ((formeref10_Way.f k x0 ((rd_T24 x0 x8).f0)).bind fun t343 => ((formeref10_Has.f k t343 x1).bind fun t346 => (if t346 = true then (if x7.length < 2932031007402 then (formeref10_split.l0 k x0 x1 x6 (x7 ++ [(⟨(rd_T24 x0 x8).f0, (rd_T24 x0 x8).f1, (rd_T24 x0 x8).f2, (rd_T24 x0 x8).f3, (rd_T24 x0 x8).f4⟩ : S24)]) (wrap64 (x8 + 1))) else (none)) else (if x6.length < 2932031007402 then (formeref10_split.l0 k x0 x1 (x6 ++ [(⟨(rd_T24 x0 x8).f0, (rd_T24 x0 x8).f1, (rd_T24 x0 x8).f2, (rd_T24 x0 x8).f3, (rd_T24 x0 x8).f4⟩ : S24)]) x7 (wrap64 (x8 + 1))) else (none))))) else (none)) else (some (x6, x7))
def formeref10_split.f (k : Nat) (l0 : List (S24)) (a1 : Int) : Option ((List (S24)) × (List (S24))) := formeref10_split.l0 k l0 a1 ([] : List (S24)) ([] : List (S24)) 0
theorem formeref10_split.mono_l : ∀ k, (∀ y0 y1 y2 y3 y4, LeO (formeref10_split.l0 k y0 y1 y2 y3 y4) (formeref10_split.l0 (k + 1) y0 y1 y2 y3 y4))
 | 0 => fun _ _ _ _ _ r h => by simp [formeref10_split.l0] at h
 | k + 1 => by
  have ih0 := formeref10_split.mono_l k
  ·intro y0 y1 y2 y3 y4
   unfold formeref10_split.l0
   repeat' first
   | (with_reducible exact ih0 _ _ _ _ _)
   | (with_reducible exact formeref10_Has.mono _ _ _)
   | (with_reducible exact formeref10_Way.mono _ _ _)
   | (with_reducible exact LeO.refl _)
   | (with_reducible exact LeO.none _)
   | (with_reducible refine LeO.ite ?_ ?_)
   | (with_reducible refine LeO.bind ?_ (fun _ => ?_))
   | exact ih0 _ _ _ _ _
   | exact formeref10_Has.mono _ _ _
   | exact formeref10_Way.mono _ _ _
   | exact LeO.none _
   | refine LeO.ite ?_ ?_
   | refine LeO.bind ?_ (fun _ => ?_)
theorem formeref10_split.mono : ∀ a0 a1 k, LeO (formeref10_split.f k a0 a1) (formeref10_split.f (k + 1) a0 a1) := by
 intro a0 a1 k
 have ih0 := formeref10_split.mono_l k
 unfold formeref10_split.f
 repeat' first
   | (with_reducible exact ih0 _ _ _ _ _)
   | (with_reducible exact formeref10_Has.mono _ _ _)
   | (with_reducible exact formeref10_Way.mono _ _ _)
   | (with_reducible exact LeO.refl _)
   | (with_reducible exact LeO.none _)
   | (with_reducible refine LeO.ite ?_ ?_)
   | (with_reducible refine LeO.bind ?_ (fun _ => ?_))
   | exact ih0 _ _ _ _ _
   | exact formeref10_Has.mono _ _ _
   | exact formeref10_Way.mono _ _ _
   | exact LeO.none _
   | refine LeO.ite ?_ ?_
   | refine LeO.bind ?_ (fun _ => ?_)
set_option maxHeartbeats 8000000 in
set_option maxRecDepth 100000 in
theorem formeref10_split.calls (k : Nat) (A0 : Option Addr) (c0 : Nat) (l0 : List (S24)) (a1 : Int) (r1 : List (S24)) (r2 : List (S24)) (w : World) (hr0 : Kd.C k24 w A0 l0.length l0) (hc0 : l0.length ≤ c0) (h : formeref10_split.f k l0 a1 = some (r1, r2)) :
  Calls Try.prog 49 #[.slice A0 l0.length c0, .int .i64 a1] w fun e w' => ∃ v0_ v1_ : Value, e = .returned (.tuple #[v0_, v1_]) ∧ Kd.R k24 24 w' w.heap.size (fun k_ => some k_ ≠ (v1_ : Value).ownBlock) v0_ r1 ∧ Kd.R k24 24 w' w.heap.size (fun k_ => some k_ ≠ (v0_ : Value).ownBlock) v1_ r2 ∧ Below w.heap.size w w' := by
 have hu24 := Try.underlying24
 have HR0 := Aside0.mk hr0
 have HC0 := Aside0.mk hc0
 clear hr0 hc0
 have HB := Aside0.mk (Below.refl w.heap.size w)
 have H : (formeref10_split.l0 k l0 a1 ([] : List (S24)) ([] : List (S24)) 0) = some (r1, r2) := h
 clear h
 have H' := Aside0.mk H
 clear H
 go_enter Try.func49, Try.ntmps49
 go_wp2
 go_loopg [6, 7, 8] k (fun kq v6 v7 v8 w' => ∃ (x6_1 : List (S24)) (x7_1 : List (S24)) (x8_1 : Int), v8 = .int .i64 x8_1 ∧ Aside0 (formeref10_split.l0 kq l0 a1 x6_1 x7_1 x8_1 = some (r1, r2)) ∧ Aside0 (kq ≤ k) ∧ Aside0 (Kd.R k24 24 w' w.heap.size (fun k_ => some k_ ≠ (v7 : Value).ownBlock) v6 x6_1) ∧ Aside0 (Kd.R k24 24 w' w.heap.size (fun k_ => some k_ ≠ (v6 : Value).ownBlock) v7 x7_1) ∧ Aside0 (Below w.heap.size w w'))
 case atStart => exact ⟨(([] : List (S24))), (([] : List (S24))), (0), z9_, H', ⟨Nat.le_refl _⟩, ⟨by first | exact Kd.R_nil _ _ _ _ _ | exact Kd.N_nil _ _ _ _ _ | exact Kd.V_nil _ _ _ _ _ | exact Kd.Q_nil _ _ _ _ _ | exact Kd.S_nil _ _ _ _ _⟩, ⟨by first | exact Kd.R_nil _ _ _ _ _ | exact Kd.N_nil _ _ _ _ _ | exact Kd.V_nil _ _ _ _ _ | exact Kd.Q_nil _ _ _ _ _ | exact Kd.S_nil _ _ _ _ _⟩, ⟨by repeat (first | (with_reducible first | exact HB.out | apply below_alloc | apply pw_below_drewN | apply below_drew1) | exact HB.out)⟩⟩
 case round =>
  clear H'
  try clear p2
  obtain ⟨x6_1, x7_1, x8_1, rfl, HA, HK1, HO_6, HO_7, HB⟩ := hrel
  cases gk with
  | zero => exact absurd HA.out (by simp [formeref10_split.l0])
  | succ k1 =>
   have H := HA.out
   clear HA
   simp only [formeref10_split.l0] at H
   by_cases c3 : x8_1 < (l0.length : Int)
   ·rw [if_pos c3] at H
    have c3b0 : decide (x8_1 < (l0.length : Int)) = true := decide_eq_true c3
    clear c3
    by_cases c4 : 0 ≤ x8_1
    rotate_left
    ·rw [if_neg c4] at H; exact absurd H (by simp)
    rw [if_pos c4] at H
    have c4b0 : decide (0 ≤ x8_1) = true := decide_eq_true c4
    clear c4
    replace H := Option.bind_eq_some_iff.mp H
    obtain ⟨t343, A50, H⟩ := H
    try dsimp only at H
    have A5 := Aside0.mk A50
    clear A50
    replace H := Option.bind_eq_some_iff.mp H
    obtain ⟨t346, A60, H⟩ := H
    try dsimp only at H
    have A6 := Aside0.mk A60
    clear A60
    by_cases c7 : t346 = true
    ·subst c7
     have H1 : (if x7_1.length < 2932031007402 then (formeref10_split.l0 k1 l0 a1 x6_1 (x7_1 ++ [(⟨(rd_T24 l0 x8_1).f0, (rd_T24 l0 x8_1).f1, (rd_T24 l0 x8_1).f2, (rd_T24 l0 x8_1).f3, (rd_T24 l0 x8_1).f4⟩ : S24)]) (wrap64 (x8_1 + 1))) else (none)) = some (r1, r2) := by rw [if_pos rfl] at H; exact H
     clear H
     have H := H1
     clear H1
     by_cases c8 : x7_1.length < 2932031007402
     rotate_left
     ·rw [if_neg c8] at H; exact absurd H (by simp)
     rw [if_pos c8] at H
     have LMc8 := Aside0.mk c8
     clear c8
     obtain ⟨y348, hy348⟩ : ∃ y_ : List (S24), y_ = (x7_1 ++ [(⟨(rd_T24 l0 x8_1).f0, (rd_T24 l0 x8_1).f1, (rd_T24 l0 x8_1).f2, (rd_T24 l0 x8_1).f3, (rd_T24 l0 x8_1).f4⟩ : S24)]) := ⟨_, rfl⟩
     replace H : (formeref10_split.l0 k1 l0 a1 x6_1 y348 (wrap64 (x8_1 + 1))) = some (r1, r2) := by first | (rw [hy348]; with_reducible exact H) | (have H2_ := (Option.bind_some _ _).symm.trans H; rw [hy348]; with_reducible exact H2_) | (have H2_ := (Option.bind_some _ _).symm.trans H; with_reducible exact H2_) | with_reducible exact H | (rw [hy348]; exact H) | exact H
     have Ny348 := Aside0.mk hy348
     clear hy348
     have H' := Aside0.mk H
     clear H
     have p342 : 0 ≤ (x8_1 : Int) := of_decide_eq_true z4_
     have q342 : x8_1 < (l0.length : Int) := of_decide_eq_true z4_
     obtain ⟨ad342, e342, hx342_0, hx342_1, hx342_2, hx342_3, hx342_4⟩ := at_T24 HR0.out x8_1 p342 q342
     cases e342
     replace hx342_0 := hbc_ HB.out hx342_0
     replace hx342_1 := hbc_ HB.out hx342_1
     replace hx342_2 := hbc_ HB.out hx342_2
     replace hx342_3 := hbc_ HB.out hx342_3
     replace hx342_4 := hbc_ HB.out hx342_4
     replace p342 := eq_true p342
     replace q342 := eq_true q342
     go_wp2_with (first | ((with_reducible refine gate_callee (f := 41) rfl ?_); refine goesL_ (some 21) rfl rfl Try.func41 (by kernel_rfl) rfl #[.slice (some ad342) l0.length c0, .int .i64 ((rd_T24 l0 x8_1).f0)] rfl z2_ ?_; (with_reducible refine (formeref10_Way.calls k1 _ _ l0 ((rd_T24 l0 x8_1).f0) t343 _ ?side1 ?side2 A5.out).mono ?_); (case side1 => exact z3_); (case side2 => exact HC0.out); rintro e w9 ⟨v344, rfl, ho0, hb⟩; refine ⟨_, rfl, ?_⟩; have n0_ := Aside0.mk (Kd.R_below z54_ hb); have n1_ := Aside0.mk (Kd.R_below z41_ hb); have n2_ := Aside0.mk (Kd.R_lower ho0 (below_size z1_)); have n3_ := Aside0.mk (below_step z1_ hb); clear HO_6; clear HO_7; clear HB; have HO_6 := n0_; have HO_7 := n1_; have HO345 := n2_; have HB := n3_; clear n0_ n1_ n2_ n3_; (try clear hb); (try clear hb2); (try clear hk); (try clear hi); (try clear ho0); obtain ⟨Ao10, co10, eo10⟩ := Kd.R_slice HO345.out; subst eo10) | ((with_reducible refine gate_callee (f := 29) rfl ?_); refine goesL_ (some 23) rfl rfl Try.func29 (by kernel_rfl) rfl #[.slice Ao10 t343.length co10, .int .i64 a1] rfl z2_ ?_; (with_reducible refine (formeref10_Has.calls k1 _ _ t343 a1 true _ ?side1 ?side2 A6.out).mono ?_); (case side1 => repeat (first | exact (Kd.R_reads' HO345.out).2.2 | (with_reducible refine Kd.C_alloc ?_ _) | (with_reducible refine Kd.C_drewN ?_ _) | (with_reducible refine Kd.C_drew ?_))); (case side2 => exact (Kd.R_reads' HO345.out).2.1); rintro e w' ⟨rfl, ⟨nd, rfl⟩⟩; refine ⟨_, rfl, ?_⟩; have p347 : 0 ≤ (x8_1 : Int) := of_decide_eq_true z4_; have q347 : x8_1 < (l0.length : Int) := of_decide_eq_true z4_; obtain ⟨ad347, e347, hx347_0, hx347_1, hx347_2, hx347_3, hx347_4⟩ := at_T24 HR0.out x8_1 p347 q347; obtain rfl : ad342 = ad347 := (by injection e347); replace hx347_0 := hbc_ HB.out hx347_0; replace hx347_1 := hbc_ HB.out hx347_1; replace hx347_2 := hbc_ HB.out hx347_2; replace hx347_3 := hbc_ HB.out hx347_3; replace hx347_4 := hbc_ HB.out hx347_4; replace p347 := eq_true p347; replace q347 := eq_true q347) | ((with_reducible refine gate_builtin (b := .append) (xs := #[.tmp 24, .tmp 29]) rfl ?_); at_builtin; refine Kd.R_append k24 (w0 := w) w.heap.size rfl (.tmp 24) (.tmp 29) 22 24 (.agg #[(.int .i64 0), (.int .i64 0), (.int .i64 0), (.int .i64 0), (.string ⟨#[]⟩)]) 48 rfl Try.underlying22 info24 rfl (by decide) (by omega) u7 x7_1 (⟨(rd_T24 l0 x8_1).f0, (rd_T24 l0 x8_1).f1, (rd_T24 l0 x8_1).f2, (rd_T24 l0 x8_1).f3, (rd_T24 l0 x8_1).f4⟩ : S24) [.int .i64 ((rd_T24 l0 x8_1).f0), .int .i64 ((rd_T24 l0 x8_1).f1), .int .i64 ((rd_T24 l0 x8_1).f2), .int .i64 ((rd_T24 l0 x8_1).f3), .string ((rd_T24 l0 x8_1).f4)] (fun k_ => some k_ ≠ (u6 : Value).ownBlock) (fun _ => False) rfl rfl ?aP (fun _ hk => hk.elim) ?aF ?aO ?aB ?aS ?aL ?_; (case aP => exact k24_mkM _ _ _ (⟨(rd_T24 l0 x8_1).f0, (rd_T24 l0 x8_1).f1, (rd_T24 l0 x8_1).f2, (rd_T24 l0 x8_1).f3, (rd_T24 l0 x8_1).f4⟩ : S24)); (case aB => exact z1_); (case aF => exact (fun k_ hk => Kd.fresh' (Kd.R_lt z54_) k_ hk)); (case aO => exact z41_); (case aS => exact (below_size z1_)); (case aL => have := LMc8.out; omega); intro v349 w11 ho hb hg hat; rw [← Ny348.out] at ho; have n0_ := Aside0.mk (Kd.R_after (ok := (fun _ => True)) (by (with_reducible repeat (first | apply Kd.R_alloc | apply Kd.R_drewN | apply Kd.R_drew)); exact Kd.R_mono HO_6.out (fun _ hk => ⟨trivial, hk⟩)) hg hat); have n1_ := Aside0.mk (Kd.R_over' (by (with_reducible repeat (first | apply Kd.R_alloc | apply Kd.R_drewN | apply Kd.R_drew)); exact HO345.out) (Kd.R_typed z41_) (by decide) hg); have n2_ := Aside0.mk (hb); have n3_ := Aside0.mk (ho); clear HO_6; clear HO345; clear HB; clear HO_7; have HO_6 := n0_; have HO345 := n1_; have HB := n2_; have HO350 := n3_; clear n0_ n1_ n2_ n3_; clear ho hb hg hat))
     go_roundg k1
     case measure => have := HK1.out; omega
     case rel => exact ⟨(x6_1), (y348), (wrap64 (x8_1 + 1)), z9_, H', ⟨by have := HK1.out; omega⟩, ⟨by (with_reducible repeat (first | apply Kd.R_alloc | apply Kd.R_drewN | apply Kd.R_drew)); exact Kd.R_mono HO_6.out (fun _ hk => hk.2)⟩, ⟨by (with_reducible repeat (first | apply Kd.R_alloc | apply Kd.R_drewN | apply Kd.R_drew)); exact HO350.out⟩, ⟨by repeat (first | (with_reducible first | exact HB.out | apply below_alloc | apply pw_below_drewN | apply below_drew1) | exact HB.out)⟩⟩
    ·replace c7 := Bool.eq_false_iff.mpr c7
     subst c7
     have H1 : (if x6_1.length < 2932031007402 then (formeref10_split.l0 k1 l0 a1 (x6_1 ++ [(⟨(rd_T24 l0 x8_1).f0, (rd_T24 l0 x8_1).f1, (rd_T24 l0 x8_1).f2, (rd_T24 l0 x8_1).f3, (rd_T24 l0 x8_1).f4⟩ : S24)]) x7_1 (wrap64 (x8_1 + 1))) else (none)) = some (r1, r2) := by rw [if_neg (show ¬ (false = true) by decide)] at H; exact H
     clear H
     have H := H1
     clear H1
     by_cases c12 : x6_1.length < 2932031007402
     rotate_left
     ·rw [if_neg c12] at H; exact absurd H (by simp)
     rw [if_pos c12] at H
     have LMc12 := Aside0.mk c12
     clear c12
     obtain ⟨y352, hy352⟩ : ∃ y_ : List (S24), y_ = (x6_1 ++ [(⟨(rd_T24 l0 x8_1).f0, (rd_T24 l0 x8_1).f1, (rd_T24 l0 x8_1).f2, (rd_T24 l0 x8_1).f3, (rd_T24 l0 x8_1).f4⟩ : S24)]) := ⟨_, rfl⟩
     replace H : (formeref10_split.l0 k1 l0 a1 y352 x7_1 (wrap64 (x8_1 + 1))) = some (r1, r2) := by first | (rw [hy352]; with_reducible exact H) | (have H2_ := (Option.bind_some _ _).symm.trans H; rw [hy352]; with_reducible exact H2_) | (have H2_ := (Option.bind_some _ _).symm.trans H; with_reducible exact H2_) | with_reducible exact H | (rw [hy352]; exact H) | exact H
     have Ny352 := Aside0.mk hy352
     clear hy352
     have H' := Aside0.mk H
     clear H
     have p342 : 0 ≤ (x8_1 : Int) := of_decide_eq_true z4_
     have q342 : x8_1 < (l0.length : Int) := of_decide_eq_true z4_
     obtain ⟨ad342, e342, hx342_0, hx342_1, hx342_2, hx342_3, hx342_4⟩ := at_T24 HR0.out x8_1 p342 q342
     cases e342
     replace hx342_0 := hbc_ HB.out hx342_0
     replace hx342_1 := hbc_ HB.out hx342_1
     replace hx342_2 := hbc_ HB.out hx342_2
     replace hx342_3 := hbc_ HB.out hx342_3
     replace hx342_4 := hbc_ HB.out hx342_4
     replace p342 := eq_true p342
     replace q342 := eq_true q342
     go_wp2_with (first | ((with_reducible refine gate_callee (f := 41) rfl ?_); refine goesL_ (some 21) rfl rfl Try.func41 (by kernel_rfl) rfl #[.slice (some ad342) l0.length c0, .int .i64 ((rd_T24 l0 x8_1).f0)] rfl z2_ ?_; (with_reducible refine (formeref10_Way.calls k1 _ _ l0 ((rd_T24 l0 x8_1).f0) t343 _ ?side1 ?side2 A5.out).mono ?_); (case side1 => exact z3_); (case side2 => exact HC0.out); rintro e w13 ⟨v344, rfl, ho0, hb⟩; refine ⟨_, rfl, ?_⟩; have n0_ := Aside0.mk (Kd.R_below z54_ hb); have n1_ := Aside0.mk (Kd.R_below z41_ hb); have n2_ := Aside0.mk (Kd.R_lower ho0 (below_size z1_)); have n3_ := Aside0.mk (below_step z1_ hb); clear HO_6; clear HO_7; clear HB; have HO_6 := n0_; have HO_7 := n1_; have HO345 := n2_; have HB := n3_; clear n0_ n1_ n2_ n3_; (try clear hb); (try clear hb2); (try clear hk); (try clear hi); (try clear ho0); obtain ⟨Ao14, co14, eo14⟩ := Kd.R_slice HO345.out; subst eo14) | ((with_reducible refine gate_callee (f := 29) rfl ?_); refine goesL_ (some 23) rfl rfl Try.func29 (by kernel_rfl) rfl #[.slice Ao14 t343.length co14, .int .i64 a1] rfl z2_ ?_; (with_reducible refine (formeref10_Has.calls k1 _ _ t343 a1 false _ ?side1 ?side2 A6.out).mono ?_); (case side1 => repeat (first | exact (Kd.R_reads' HO345.out).2.2 | (with_reducible refine Kd.C_alloc ?_ _) | (with_reducible refine Kd.C_drewN ?_ _) | (with_reducible refine Kd.C_drew ?_))); (case side2 => exact (Kd.R_reads' HO345.out).2.1); rintro e w' ⟨rfl, ⟨nd, rfl⟩⟩; refine ⟨_, rfl, ?_⟩; have p351 : 0 ≤ (x8_1 : Int) := of_decide_eq_true z4_; have q351 : x8_1 < (l0.length : Int) := of_decide_eq_true z4_; obtain ⟨ad351, e351, hx351_0, hx351_1, hx351_2, hx351_3, hx351_4⟩ := at_T24 HR0.out x8_1 p351 q351; obtain rfl : ad342 = ad351 := (by injection e351); replace hx351_0 := hbc_ HB.out hx351_0; replace hx351_1 := hbc_ HB.out hx351_1; replace hx351_2 := hbc_ HB.out hx351_2; replace hx351_3 := hbc_ HB.out hx351_3; replace hx351_4 := hbc_ HB.out hx351_4; replace p351 := eq_true p351; replace q351 := eq_true q351) | ((with_reducible refine gate_builtin (b := .append) (xs := #[.tmp 31, .tmp 36]) rfl ?_); at_builtin; refine Kd.R_append k24 (w0 := w) w.heap.size rfl (.tmp 31) (.tmp 36) 22 24 (.agg #[(.int .i64 0), (.int .i64 0), (.int .i64 0), (.int .i64 0), (.string ⟨#[]⟩)]) 48 rfl Try.underlying22 info24 rfl (by decide) (by omega) u6 x6_1 (⟨(rd_T24 l0 x8_1).f0, (rd_T24 l0 x8_1).f1, (rd_T24 l0 x8_1).f2, (rd_T24 l0 x8_1).f3, (rd_T24 l0 x8_1).f4⟩ : S24) [.int .i64 ((rd_T24 l0 x8_1).f0), .int .i64 ((rd_T24 l0 x8_1).f1), .int .i64 ((rd_T24 l0 x8_1).f2), .int .i64 ((rd_T24 l0 x8_1).f3), .string ((rd_T24 l0 x8_1).f4)] (fun k_ => some k_ ≠ (u7 : Value).ownBlock) (fun _ => False) rfl rfl ?aP (fun _ hk => hk.elim) ?aF ?aO ?aB ?aS ?aL ?_; (case aP => exact k24_mkM _ _ _ (⟨(rd_T24 l0 x8_1).f0, (rd_T24 l0 x8_1).f1, (rd_T24 l0 x8_1).f2, (rd_T24 l0 x8_1).f3, (rd_T24 l0 x8_1).f4⟩ : S24)); (case aB => exact z1_); (case aF => exact (fun k_ hk => Kd.fresh' (Kd.R_lt z41_) k_ hk)); (case aO => exact z54_); (case aS => exact (below_size z1_)); (case aL => have := LMc12.out; omega); intro v353 w15 ho hb hg hat; rw [← Ny352.out] at ho; have n0_ := Aside0.mk (Kd.R_after (ok := (fun _ => True)) (by (with_reducible repeat (first | apply Kd.R_alloc | apply Kd.R_drewN | apply Kd.R_drew)); exact Kd.R_mono HO_7.out (fun _ hk => ⟨trivial, hk⟩)) hg hat); have n1_ := Aside0.mk (Kd.R_over' (by (with_reducible repeat (first | apply Kd.R_alloc | apply Kd.R_drewN | apply Kd.R_drew)); exact HO345.out) (Kd.R_typed z54_) (by decide) hg); have n2_ := Aside0.mk (hb); have n3_ := Aside0.mk (ho); clear HO_7; clear HO345; clear HB; clear HO_6; have HO_7 := n0_; have HO345 := n1_; have HB := n2_; have HO354 := n3_; clear n0_ n1_ n2_ n3_; clear ho hb hg hat))
     go_roundg k1
     case measure => have := HK1.out; omega
     case rel => exact ⟨(y352), (x7_1), (wrap64 (x8_1 + 1)), z9_, H', ⟨by have := HK1.out; omega⟩, ⟨by (with_reducible repeat (first | apply Kd.R_alloc | apply Kd.R_drewN | apply Kd.R_drew)); exact HO354.out⟩, ⟨by (with_reducible repeat (first | apply Kd.R_alloc | apply Kd.R_drewN | apply Kd.R_drew)); exact Kd.R_mono HO_7.out (fun _ hk => hk.2)⟩, ⟨by repeat (first | (with_reducible first | exact HB.out | apply below_alloc | apply pw_below_drewN | apply below_drew1) | exact HB.out)⟩⟩
   ·rw [if_neg c3] at H
    have c3b0 : decide (x8_1 < (l0.length : Int)) = false := decide_eq_false c3
    clear c3
    simp only [Option.some.injEq, Prod.mk.injEq] at H
    obtain ⟨rfl, rfl⟩ := H
    go_wp2
    go_ret2
    exact ⟨_, _, by first | rfl | (simp [errW_none, errW_some] <;> rfl) | (simp [*, errW_none, errW_some] <;> rfl), by (with_reducible repeat (first | apply Kd.R_alloc | apply Kd.R_drewN | apply Kd.R_drew)); exact HO_6.out, by (with_reducible repeat (first | apply Kd.R_alloc | apply Kd.R_drewN | apply Kd.R_drew)); exact HO_7.out, by repeat (first | (with_reducible first | exact HB.out | apply below_alloc | apply pw_below_drewN | apply below_drew1) | exact HB.out)⟩
end Go.Proofs.Ytpafhhgoldenoaa.P
end
section
namespace Go.Proofs.Ytpafhhgoldenoaa.P
open Go.RowKit Go.Proofs.YtpafhhgoldenoaaW.PrintWords Go.Proofs.YtpafhhgoldenoaaW.PrintLast Go.Proofs.YtpafhhgoldenoaaW.PrintMore
attribute [local go_sem] max2_int min2_int max_two min_two max_three min_three max_four min_four
set_option linter.unusedVariables false
set_option linter.unusedSimpArgs false
def formeref10_Remove.f (k : Nat) (l0 : List (S24)) (a1 : Int) : Option ((List (S24)) × Int) := (formeref10_Find.f k l0 a1).bind fun bt355 => (if bt355.2.2 = 0 then (if bt355.2.1 = true then (if bt355.1 = 0 then (some (([] : List (S24)), 24)) else ((formeref10_split.f k l0 a1).bind fun bt358 => (some (bt358.1, 0)))) else (some (([] : List (S24)), 4))) else (some (([] : List (S24)), bt355.2.2)))
theorem formeref10_Remove.mono : ∀ a0 a1 k, LeO (formeref10_Remove.f k a0 a1) (formeref10_Remove.f (k + 1) a0 a1) := by
 intro a0 a1 k
 unfold formeref10_Remove.f
 repeat' first
   | (with_reducible exact formeref10_Find.mono _ _ _)
   | (with_reducible exact formeref10_split.mono _ _ _)
   | (with_reducible exact LeO.refl _)
   | (with_reducible exact LeO.none _)
   | (with_reducible refine LeO.ite ?_ ?_)
   | (with_reducible refine LeO.bind ?_ (fun _ => ?_))
   | exact formeref10_Find.mono _ _ _
   | exact formeref10_split.mono _ _ _
   | exact LeO.none _
   | refine LeO.ite ?_ ?_
   | refine LeO.bind ?_ (fun _ => ?_)
set_option maxHeartbeats 8000000 in
set_option maxRecDepth 100000 in
theorem formeref10_Remove.calls (k : Nat) (A0 : Option Addr) (c0 : Nat) (l0 : List (S24)) (a1 : Int) (r1 : List (S24)) (r2 : Int) (w : World) (hr0 : Kd.C k24 w A0 l0.length l0) (hc0 : l0.length ≤ c0) (h : formeref10_Remove.f k l0 a1 = some (r1, r2)) :
  Calls Try.prog 24 #[.slice A0 l0.length c0, .int .i64 a1] w fun e w' => ∃ v0_ : Value, e = .returned (.tuple #[v0_, .int .i64 r2]) ∧ Kd.R k24 24 w' w.heap.size (fun _ => True) v0_ r1 ∧ Below w.heap.size w w' := by
 have HR0 := Aside0.mk hr0
 have HC0 := Aside0.mk hc0
 clear hr0 hc0
 have HB := Aside0.mk (Below.refl w.heap.size w)
 have H : ((formeref10_Find.f k l0 a1).bind fun bt355 => (if bt355.2.2 = 0 then (if bt355.2.1 = true then (if bt355.1 = 0 then (some (([] : List (S24)), 24)) else ((formeref10_split.f k l0 a1).bind fun bt358 => (some (bt358.1, 0)))) else (some (([] : List (S24)), 4))) else (some (([] : List (S24)), bt355.2.2)))) = some (r1, r2) := h
 clear h
 replace H := Option.bind_eq_some_iff.mp H
 obtain ⟨⟨t355, t356, t357⟩, A30, H⟩ := H
 try dsimp only at H
 have A3 := Aside0.mk A30
 clear A30
 by_cases c4 : t357 = 0
 ·rw [if_pos c4] at H
  have c4b0 : (t357 == 0) = true := beq_iff_eq.mpr c4
  have c4b1 : (t357 != 0) = false := bne_eq_false_iff_eq.mpr c4
  clear c4
  by_cases c5 : t356 = true
  ·subst c5
   have H1 : (if t355 = 0 then (some (([] : List (S24)), 24)) else ((formeref10_split.f k l0 a1).bind fun bt358 => (some (bt358.1, 0)))) = some (r1, r2) := by rw [if_pos rfl] at H; exact H
   clear H
   have H := H1
   clear H1
   by_cases c6 : t355 = 0
   ·rw [if_pos c6] at H
    have c6b0 : (t355 == 0) = true := beq_iff_eq.mpr c6
    have c6b1 : (t355 != 0) = false := bne_eq_false_iff_eq.mpr c6
    clear c6
    simp only [Option.some.injEq, Prod.mk.injEq] at H
    obtain ⟨rfl, rfl⟩ := H
    go_enter Try.func24, Try.ntmps24
    go_wp2_with (first | ((with_reducible refine gate_callee (f := 12) rfl ?_); refine goesL_ (some 14) rfl rfl Try.func12 (by kernel_rfl) rfl #[.slice A0 l0.length c0, .int .i64 a1] rfl z2_ ?_; (with_reducible refine (formeref10_Find.calls k _ _ l0 a1 t355 true t357 _ ?side1 ?side2 A3.out).mono ?_); (case side1 => exact z7_); (case side2 => exact HC0.out); rintro e w7 ⟨rfl, hb⟩; refine ⟨_, rfl, ?_⟩; have n0_ := Aside0.mk (below_step z1_ hb); clear HB; have HB := n0_; clear n0_; (try clear hb); (try clear hb2); (try clear hk); (try clear hi)))
    go_ret2
    exact ⟨_, by first | rfl | (simp [errW_none, errW_some] <;> rfl) | (simp [*, errW_none, errW_some] <;> rfl), by first | exact Kd.R_nil _ _ _ _ _ | exact Kd.N_nil _ _ _ _ _ | exact Kd.V_nil _ _ _ _ _ | exact Kd.Q_nil _ _ _ _ _ | exact Kd.S_nil _ _ _ _ _, by repeat (first | (with_reducible first | exact HB.out | apply below_alloc | apply pw_below_drewN | apply below_drew1) | exact HB.out)⟩
   ·rw [if_neg c6] at H
    have c6b0 : (t355 == 0) = false := beq_eq_false_iff_ne.mpr c6
    have c6b1 : (t355 != 0) = true := bne_iff_ne.mpr c6
    replace H := Option.bind_eq_some_iff.mp H
    obtain ⟨⟨t358, t359⟩, A80, H⟩ := H
    try dsimp only at H
    have A8 := Aside0.mk A80
    clear A80
    simp only [Option.some.injEq, Prod.mk.injEq] at H
    obtain ⟨rfl, rfl⟩ := H
    go_enter Try.func24, Try.ntmps24
    go_wp2_with (first | ((with_reducible refine gate_callee (f := 12) rfl ?_); refine goesL_ (some 14) rfl rfl Try.func12 (by kernel_rfl) rfl #[.slice A0 l0.length c0, .int .i64 a1] rfl z2_ ?_; (with_reducible refine (formeref10_Find.calls k _ _ l0 a1 t355 true t357 _ ?side1 ?side2 A3.out).mono ?_); (case side1 => exact z7_); (case side2 => exact HC0.out); rintro e w9 ⟨rfl, hb⟩; refine ⟨_, rfl, ?_⟩; have n0_ := Aside0.mk (below_step z1_ hb); clear HB; have HB := n0_; clear n0_; (try clear hb); (try clear hb2); (try clear hk); (try clear hi)) | ((with_reducible refine gate_callee (f := 49) rfl ?_); refine goesL_ (some 28) rfl rfl Try.func49 (by kernel_rfl) rfl #[.slice A0 l0.length c0, .int .i64 a1] rfl z2_ ?_; (with_reducible refine (formeref10_split.calls k _ _ l0 a1 t358 t359 _ ?side1 ?side2 A8.out).mono ?_); (case side1 => exact z3_); (case side2 => exact HC0.out); rintro e w10 ⟨v360, v362, rfl, ho0, ho1, hb⟩; refine ⟨_, rfl, ?_⟩; have n0_ := Aside0.mk (Kd.R_lower ho0 (below_size z1_)); have n1_ := Aside0.mk (Kd.R_lower ho1 (below_size z1_)); have n2_ := Aside0.mk (below_step z1_ hb); clear HB; have HO361 := n0_; have HO363 := n1_; have HB := n2_; clear n0_ n1_ n2_; (try clear hb); (try clear hb2); (try clear hk); (try clear hi); (try clear ho0); (try clear ho1)))
    go_ret2
    exact ⟨_, by first | rfl | (simp [errW_none, errW_some] <;> rfl) | (simp [*, errW_none, errW_some] <;> rfl), by (with_reducible repeat (first | apply Kd.R_alloc | apply Kd.R_drewN | apply Kd.R_drew)); exact Kd.R_mono HO361.out (fun _ hk => trivial), by repeat (first | (with_reducible first | exact HB.out | apply below_alloc | apply pw_below_drewN | apply below_drew1) | exact HB.out)⟩
  ·replace c5 := Bool.eq_false_iff.mpr c5
   subst c5
   have H1 : (some (([] : List (S24)), 4)) = some (r1, r2) := by rw [if_neg (show ¬ (false = true) by decide)] at H; exact H
   clear H
   have H := H1
   clear H1
   simp only [Option.some.injEq, Prod.mk.injEq] at H
   obtain ⟨rfl, rfl⟩ := H
   go_enter Try.func24, Try.ntmps24
   go_wp2_with (first | ((with_reducible refine gate_callee (f := 12) rfl ?_); refine goesL_ (some 14) rfl rfl Try.func12 (by kernel_rfl) rfl #[.slice A0 l0.length c0, .int .i64 a1] rfl z2_ ?_; (with_reducible refine (formeref10_Find.calls k _ _ l0 a1 t355 false t357 _ ?side1 ?side2 A3.out).mono ?_); (case side1 => exact z7_); (case side2 => exact HC0.out); rintro e w11 ⟨rfl, hb⟩; refine ⟨_, rfl, ?_⟩; have n0_ := Aside0.mk (below_step z1_ hb); clear HB; have HB := n0_; clear n0_; (try clear hb); (try clear hb2); (try clear hk); (try clear hi)))
   go_ret2
   exact ⟨_, by first | rfl | (simp [errW_none, errW_some] <;> rfl) | (simp [*, errW_none, errW_some] <;> rfl), by first | exact Kd.R_nil _ _ _ _ _ | exact Kd.N_nil _ _ _ _ _ | exact Kd.V_nil _ _ _ _ _ | exact Kd.Q_nil _ _ _ _ _ | exact Kd.S_nil _ _ _ _ _, by repeat (first | (with_reducible first | exact HB.out | apply below_alloc | apply pw_below_drewN | apply below_drew1) | exact HB.out)⟩
 ·rw [if_neg c4] at H
  have c4b0 : (t357 == 0) = false := beq_eq_false_iff_ne.mpr c4
  have c4b1 : (t357 != 0) = true := bne_iff_ne.mpr c4
  simp only [Option.some.injEq, Prod.mk.injEq] at H
  obtain ⟨rfl, rfl⟩ := H
  go_enter Try.func24, Try.ntmps24
  go_wp2_with (first | ((with_reducible refine gate_callee (f := 12) rfl ?_); refine goesL_ (some 14) rfl rfl Try.func12 (by kernel_rfl) rfl #[.slice A0 l0.length c0, .int .i64 a1] rfl z2_ ?_; (with_reducible refine (formeref10_Find.calls k _ _ l0 a1 t355 t356 t357 _ ?side1 ?side2 A3.out).mono ?_); (case side1 => exact z7_); (case side2 => exact HC0.out); rintro e w12 ⟨rfl, hb⟩; refine ⟨_, rfl, ?_⟩; have n0_ := Aside0.mk (below_step z1_ hb); clear HB; have HB := n0_; clear n0_; (try clear hb); (try clear hb2); (try clear hk); (try clear hi)))
  go_ret2
  exact ⟨_, by first | rfl | (simp [errW_none, errW_some] <;> rfl) | (simp [*, errW_none, errW_some] <;> rfl), by first | exact Kd.R_nil _ _ _ _ _ | exact Kd.N_nil _ _ _ _ _ | exact Kd.V_nil _ _ _ _ _ | exact Kd.Q_nil _ _ _ _ _ | exact Kd.S_nil _ _ _ _ _, by repeat (first | (with_reducible first | exact HB.out | apply below_alloc | apply pw_below_drewN | apply below_drew1) | exact HB.out)⟩
end Go.Proofs.Ytpafhhgoldenoaa.P
end

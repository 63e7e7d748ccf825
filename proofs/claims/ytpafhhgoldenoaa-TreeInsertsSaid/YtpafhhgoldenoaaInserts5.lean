import Derived.Test.YtpafhhgoldenoaaInserts4
/- What Insert returns is a tree with the new node at its place, and all others the same; removed again, the list is as it was: TreeInserts returns true for every list, node and number and leaves its arguments as they were. -/
section
namespace Go.Proofs.Ytpafhhgoldenoaa.P
open Go.RowKit Go.Proofs.YtpafhhgoldenoaaW.PrintWords Go.Proofs.YtpafhhgoldenoaaW.PrintLast Go.Proofs.YtpafhhgoldenoaaW.PrintMore
attribute [local go_sem] max2_int min2_int max_two min_two max_three min_three max_four min_four
set_option linter.unusedVariables false
set_option linter.unusedSimpArgs false
attribute [local go_sem high] eqA24
mutual
def formelaw10_TreeInserts.j0 : Nat → List (S24) → Int → Bool → List (S24) → List Int → List (S24) → Bool → Int → Int → Int → Int → ByteArray → Option (Bool)
 | 0, _, _, _, _, _, _, _, _, _, _, _, _ => none
 | k + 1, x0, x2, x7, x8, x10, x15, x98, x498000, x498001, x498002, x498003, x498004 => if x98 = true then (none) else (formelaw10_TreeInserts.l0 k x0 x2 x7 x8 x10 x15 (wrap64 ((x10.length : Int) - 1)) x10 (x10.length : Int) 0 x498000 x498001 x498002 x498003 x498004)
def formelaw10_TreeInserts.l0 : Nat → List (S24) → Int → Bool → List (S24) → List Int → List (S24) → Int → List Int → Int → Int → Int → Int → Int → Int → ByteArray → Option (Bool)
 | 0, _, _, _, _, _, _, _, _, _, _, _, _, _, _, _ => none
 | k + 1, x0, x2, x7, x8, x10, x15, x17, x102, x103, x104, x498000, x498001, x498002, x498003, x498004 => if x104 < x103 then (if 0 ≤ x104 then (if x104 < (x102.length : Int) then (if (rd x102 x104) = x2 then (formelaw10_TreeInserts.l0 k x0 x2 x7 x8 x10 x15 (wrap64 (x104 - 1)) x102 x103 (wrap64 (x104 + 1)) x498000 x498001 x498002 x498003 x498004) else (formelaw10_TreeInserts.l0 k x0 x2 x7 x8 x10 x15 x17 x102 x103 (wrap64 (x104 + 1)) x498000 x498001 x498002 x498003 x498004)) else (none)) else (none)) else (if x7 = true then (if x17 ≥ 0 then (if 0 ≤ x17 then (if x17 < (x10.length : Int) then (if (rd x10 x17) = x498000 then ((formeref10_Same.f k x15 x0).bind fun t519 => (if t519 = true then ((formelaw10_alike.f x0 x8 x498000).bind fun t520 => (some t520)) else (none))) else (none)) else (none)) else (none)) else (none)) else (none))
end
def formelaw10_TreeInserts.f (k : Nat) (l0 : List (S24)) (a1_0 : Int) (a1_1 : Int) (a1_2 : Int) (a1_3 : Int) (a1_4 : ByteArray) (a2 : Int) : Option (Bool) := (formelaw10_head.f k).bind fun t498 => ((formelaw10_usable.f k l0).bind fun t499 => (if t499 = true then ((tree_Insert.f l0 a1_0 a1_1 a1_2 a1_3 a1_4 a2).bind fun bt500 => (if bt500.2 = 0 then ((tree_Kids.f k bt500.1 a1_1).bind fun bt504 => ((tree_Find.f bt500.1 a1_0).bind fun bt508 => ((tree_Remove.f bt500.1 a1_0).bind fun bt511 => (if bt504.2 = 0 then (if bt508.2.2 = 0 then (if bt511.2 = 0 then (if bt508.2.1 = true then (if bt508.1 ≥ (bt500.1.length : Int) then (formelaw10_TreeInserts.j0 k l0 a2 t498 bt500.1 bt504.1 bt511.1 true a1_0 a1_1 a1_2 a1_3 a1_4) else (if bt508.1 < 1 then (formelaw10_TreeInserts.j0 k l0 a2 t498 bt500.1 bt504.1 bt511.1 true a1_0 a1_1 a1_2 a1_3 a1_4) else (if 0 ≤ bt508.1 then (if bt508.1 < (bt500.1.length : Int) then (if (!(((rd_T24 bt500.1 bt508.1).f0) == a1_0) || (!(((rd_T24 bt500.1 bt508.1).f1) == a1_1) || (!(((rd_T24 bt500.1 bt508.1).f2) == a1_2) || (!(((rd_T24 bt500.1 bt508.1).f3) == a1_3) || (!((((rd_T24 bt500.1 bt508.1).f4).toList) == a1_4.toList)))))) = true then (formelaw10_TreeInserts.j0 k l0 a2 t498 bt500.1 bt504.1 bt511.1 true a1_0 a1_1 a1_2 a1_3 a1_4) else ((tree_Valid.f bt500.1).bind fun t516 => (formelaw10_TreeInserts.j0 k l0 a2 t498 bt500.1 bt504.1 bt511.1 (!t516) a1_0 a1_1 a1_2 a1_3 a1_4))) else (none)) else (none)))) else (formelaw10_TreeInserts.j0 k l0 a2 t498 bt500.1 bt504.1 bt511.1 true a1_0 a1_1 a1_2 a1_3 a1_4)) else (formelaw10_TreeInserts.j0 k l0 a2 t498 bt500.1 bt504.1 bt511.1 true a1_0 a1_1 a1_2 a1_3 a1_4)) else (formelaw10_TreeInserts.j0 k l0 a2 t498 bt500.1 bt504.1 bt511.1 true a1_0 a1_1 a1_2 a1_3 a1_4)) else (formelaw10_TreeInserts.j0 k l0 a2 t498 bt500.1 bt504.1 bt511.1 true a1_0 a1_1 a1_2 a1_3 a1_4))))) else (if t498 = true then (some ((bt500.1.length : Int) == 0)) else (none)))) else (some t498)))
def formelaw10_TreeInserts.T10 : Bool × List (List Nat × List Nat) := (true, [([], []), ([0], [0]), ([1], [1]), ([2], [2]), ([3, 2], [2, 3]), ([2, 4], [2, 4]), ([5, 2], [5]), ([6], [6]), ([7, 6], [6, 7]), ([6, 8], [6, 8]), ([9, 6], [9]), ([10], [10]), ([11, 10], [10, 11]), ([10, 12], [10, 12]), ([13, 10], [13]), ([14], [14]), ([14], [14]), ([16, 14], [14, 16]), ([15, 17, 14], [14, 15, 17]), ([14, 18], [14, 18]), ([19, 14], [19]), ([20], [20]), ([21, 20], [20, 21]), ([20, 22], [20, 22]), ([23, 20], [23]), ([24], [24]), ([24], [24]), ([25, 26, 24], [24, 25, 26]), ([27, 24], [24, 27]), ([24], [24]), ([28, 29, 24], [24, 28, 29]), ([24, 30], [24, 30]), ([31, 24], [31]), ([32], [32]), ([33, 32, 32], [32, 33]), ([34, 32], [32, 34]), ([32, 35], [32, 35])])
def formelaw10_TreeInserts.B10 : List Nat := [0, 1, 3, 7, 15, 31, 63, 127, 255, 511, 1023, 2047, 4095, 8191, 16383, 32767, 32767, 98303, 262143, 524287, 1048575, 2097151, 4194303, 8388607, 16777215, 33554431, 33554431, 134217727, 268435455, 33554431, 1073741823, 2147483647, 4294967295, 8589934591, 17179869183, 34359738367, 68719476735]
theorem formelaw10_TreeInserts.tab10 : rtab .any (opsOf Try.f6 10) = formelaw10_TreeInserts.T10 := by kernel_rfl
theorem formelaw10_TreeInserts.bits10 : waitsOk formelaw10_TreeInserts.T10.2 formelaw10_TreeInserts.B10 = true := by kernel_rfl
def formelaw10_TreeInserts.T19 : Bool × List (List Nat × List Nat) := (true, [([], []), ([0], [0]), ([1], [1]), ([2, 1], [1, 2]), ([1, 3], [1, 3]), ([4, 1], [4]), ([5], [5]), ([5], [5]), ([6, 7, 5], [5, 6, 7]), ([8, 5], [5, 8]), ([5], [5]), ([10, 5], [5, 10]), ([9, 11, 5], [5, 9, 11]), ([5, 12], [5, 12]), ([13, 5], [13]), ([14], [14]), ([14], [14]), ([15, 16, 14, 14], [14, 15, 16]), ([14, 17], [14, 17]), ([18, 17], [18]), ([19], [19]), ([19], [19]), ([19], [19]), ([22, 19], [19, 22]), ([20, 21, 23, 19, 19], [19, 20, 21, 23]), ([19, 24], [19, 24]), ([25, 24, 0, 1, 2, 3, 4, 5, 6, 7, 8, 9, 10, 11, 12, 13, 14, 15, 16, 17, 18, 19, 20, 21, 22, 23, 24, 25], [25])])
def formelaw10_TreeInserts.B19 : List Nat := [0, 1, 3, 7, 15, 31, 63, 63, 255, 511, 63, 1087, 4095, 8191, 16383, 32767, 32767, 131071, 262143, 524287, 1048575, 1048575, 1048575, 5242879, 16777215, 33554431, 67108863]
theorem formelaw10_TreeInserts.tab19 : rtab .any (opsOf Try.f6 19) = formelaw10_TreeInserts.T19 := by kernel_rfl
theorem formelaw10_TreeInserts.bits19 : waitsOk formelaw10_TreeInserts.T19.2 formelaw10_TreeInserts.B19 = true := by kernel_rfl
set_option maxHeartbeats 8000000 in
set_option maxRecDepth 100000 in
theorem formelaw10_TreeInserts.calls (k : Nat) (A0 : Option Addr) (c0 : Nat) (l0 : List (S24)) (a1_0 : Int) (a1_1 : Int) (a1_2 : Int) (a1_3 : Int) (a1_4 : ByteArray) (a2 : Int) (r : Bool) (w : World) (hr0 : Kd.C k24 w A0 l0.length l0) (hc0 : l0.length ≤ c0) (h : formelaw10_TreeInserts.f k l0 a1_0 a1_1 a1_2 a1_3 a1_4 a2 = some r) :
  Calls Try.prog 6 #[.slice A0 l0.length c0, .agg #[.int .i64 a1_0, .int .i64 a1_1, .int .i64 a1_2, .int .i64 a1_3, .string a1_4], .int .i64 a2] w fun e w' => e = .returned (.bool r) ∧ Below w.heap.size w w' := by
 have hu24 := Try.underlying24
 have HR0 := Aside0.mk hr0
 have HC0 := Aside0.mk hc0
 clear hr0 hc0
 have HB := Aside0.mk (Below.refl w.heap.size w)
 have H : ((formelaw10_head.f k).bind fun t498 => ((formelaw10_usable.f k l0).bind fun t499 => (if t499 = true then ((tree_Insert.f l0 a1_0 a1_1 a1_2 a1_3 a1_4 a2).bind fun bt500 => (if bt500.2 = 0 then ((tree_Kids.f k bt500.1 a1_1).bind fun bt504 => ((tree_Find.f bt500.1 a1_0).bind fun bt508 => ((tree_Remove.f bt500.1 a1_0).bind fun bt511 => (if bt504.2 = 0 then (if bt508.2.2 = 0 then (if bt511.2 = 0 then (if bt508.2.1 = true then (if bt508.1 ≥ (bt500.1.length : Int) then (formelaw10_TreeInserts.j0 k l0 a2 t498 bt500.1 bt504.1 bt511.1 true a1_0 a1_1 a1_2 a1_3 a1_4) else (if bt508.1 < 1 then (formelaw10_TreeInserts.j0 k l0 a2 t498 bt500.1 bt504.1 bt511.1 true a1_0 a1_1 a1_2 a1_3 a1_4) else (if 0 ≤ bt508.1 then (if bt508.1 < (bt500.1.length : Int) then (if (!(((rd_T24 bt500.1 bt508.1).f0) == a1_0) || (!(((rd_T24 bt500.1 bt508.1).f1) == a1_1) || (!(((rd_T24 bt500.1 bt508.1).f2) == a1_2) || (!(((rd_T24 bt500.1 bt508.1).f3) == a1_3) || (!((((rd_T24 bt500.1 bt508.1).f4).toList) == a1_4.toList)))))) = true then (formelaw10_TreeInserts.j0 k l0 a2 t498 bt500.1 bt504.1 bt511.1 true a1_0 a1_1 a1_2 a1_3 a1_4) else ((tree_Valid.f bt500.1).bind fun t516 => (formelaw10_TreeInserts.j0 k l0 a2 t498 bt500.1 bt504.1 bt511.1 (!t516) a1_0 a1_1 a1_2 a1_3 a1_4))) else (none)) else (none)))) else (formelaw10_TreeInserts.j0 k l0 a2 t498 bt500.1 bt504.1 bt511.1 true a1_0 a1_1 a1_2 a1_3 a1_4)) else (formelaw10_TreeInserts.j0 k l0 a2 t498 bt500.1 bt504.1 bt511.1 true a1_0 a1_1 a1_2 a1_3 a1_4)) else (formelaw10_TreeInserts.j0 k l0 a2 t498 bt500.1 bt504.1 bt511.1 true a1_0 a1_1 a1_2 a1_3 a1_4)) else (formelaw10_TreeInserts.j0 k l0 a2 t498 bt500.1 bt504.1 bt511.1 true a1_0 a1_1 a1_2 a1_3 a1_4))))) else (if t498 = true then (some ((bt500.1.length : Int) == 0)) else (none)))) else (some t498)))) = some r := h
 clear h
 replace H := Option.bind_eq_some_iff.mp H
 obtain ⟨t498, A40, H⟩ := H
 try dsimp only at H
 have A4 := Aside0.mk A40
 clear A40
 replace H := Option.bind_eq_some_iff.mp H
 obtain ⟨t499, A50, H⟩ := H
 try dsimp only at H
 have A5 := Aside0.mk A50
 clear A50
 by_cases c6 : t499 = true
 ·subst c6
  have H1 : ((tree_Insert.f l0 a1_0 a1_1 a1_2 a1_3 a1_4 a2).bind fun bt500 => (if bt500.2 = 0 then ((tree_Kids.f k bt500.1 a1_1).bind fun bt504 => ((tree_Find.f bt500.1 a1_0).bind fun bt508 => ((tree_Remove.f bt500.1 a1_0).bind fun bt511 => (if bt504.2 = 0 then (if bt508.2.2 = 0 then (if bt511.2 = 0 then (if bt508.2.1 = true then (if bt508.1 ≥ (bt500.1.length : Int) then (formelaw10_TreeInserts.j0 k l0 a2 t498 bt500.1 bt504.1 bt511.1 true a1_0 a1_1 a1_2 a1_3 a1_4) else (if bt508.1 < 1 then (formelaw10_TreeInserts.j0 k l0 a2 t498 bt500.1 bt504.1 bt511.1 true a1_0 a1_1 a1_2 a1_3 a1_4) else (if 0 ≤ bt508.1 then (if bt508.1 < (bt500.1.length : Int) then (if (!(((rd_T24 bt500.1 bt508.1).f0) == a1_0) || (!(((rd_T24 bt500.1 bt508.1).f1) == a1_1) || (!(((rd_T24 bt500.1 bt508.1).f2) == a1_2) || (!(((rd_T24 bt500.1 bt508.1).f3) == a1_3) || (!((((rd_T24 bt500.1 bt508.1).f4).toList) == a1_4.toList)))))) = true then (formelaw10_TreeInserts.j0 k l0 a2 t498 bt500.1 bt504.1 bt511.1 true a1_0 a1_1 a1_2 a1_3 a1_4) else ((tree_Valid.f bt500.1).bind fun t516 => (formelaw10_TreeInserts.j0 k l0 a2 t498 bt500.1 bt504.1 bt511.1 (!t516) a1_0 a1_1 a1_2 a1_3 a1_4))) else (none)) else (none)))) else (formelaw10_TreeInserts.j0 k l0 a2 t498 bt500.1 bt504.1 bt511.1 true a1_0 a1_1 a1_2 a1_3 a1_4)) else (formelaw10_TreeInserts.j0 k l0 a2 t498 bt500.1 bt504.1 bt511.1 true a1_0 a1_1 a1_2 a1_3 a1_4)) else (formelaw10_TreeInserts.j0 k l0 a2 t498 bt500.1 bt504.1 bt511.1 true a1_0 a1_1 a1_2 a1_3 a1_4)) else (formelaw10_TreeInserts.j0 k l0 a2 t498 bt500.1 bt504.1 bt511.1 true a1_0 a1_1 a1_2 a1_3 a1_4))))) else (if t498 = true then (some ((bt500.1.length : Int) == 0)) else (none)))) = some r := by rw [if_pos rfl] at H; exact H
  clear H
  have H := H1
  clear H1
  replace H := Option.bind_eq_some_iff.mp H
  obtain ⟨⟨t500, t503⟩, A70, H⟩ := H
  try dsimp only at H
  have A7 := Aside0.mk A70
  clear A70
  by_cases c8 : t503 = 0
  ·rw [if_pos c8] at H
   have c8b0 : (t503 == 0) = true := beq_iff_eq.mpr c8
   have c8b1 : (t503 != 0) = false := bne_eq_false_iff_eq.mpr c8
   clear c8
   replace H := Option.bind_eq_some_iff.mp H
   obtain ⟨⟨t504, t505⟩, A90, H⟩ := H
   try dsimp only at H
   have A9 := Aside0.mk A90
   clear A90
   replace H := Option.bind_eq_some_iff.mp H
   obtain ⟨⟨t508, t509, t510⟩, A100, H⟩ := H
   try dsimp only at H
   have A10 := Aside0.mk A100
   clear A100
   replace H := Option.bind_eq_some_iff.mp H
   obtain ⟨⟨t511, t512⟩, A110, H⟩ := H
   try dsimp only at H
   have A11 := Aside0.mk A110
   clear A110
   have HC12 := Aside0.mk H
   clear H
   go_enter Try.func6, Try.ntmps6
   go_upto_region 10 with (first | ((with_reducible refine gate_dst (N := 4) rfl ?_); (try (refine gate_guard (by rfl) ?_; dsimp only)); refine box_event ?hg (N := 4) ?hd (cs := #[.int .i64 a1_0, .int .i64 a1_1, .int .i64 a1_2, .int .i64 a1_3, .string a1_4]) (t := 24) ?hr ?_; (case hd => rfl); (case hg => rfl); (case hr => exact z11_); intro gb497 hg w13 hbox hb; have n0_ := Aside0.mk (below_step z1_ hb); have n1_ := Aside0.mk (hbox); have n2_ := Aside0.mk ((by rw [hg]; exact (below_size z1_) : w.heap.size ≤ gb497)); have n3_ := Aside0.mk ((by rw [hg]; exact (below_size z1_) : w.heap.size ≤ gb497)); clear HB; have HB := n0_; have BK497 := n1_; have GW497 := n2_; have GE497 := n3_; clear n0_ n1_ n2_ n3_; clear hb hbox hg) | ((with_reducible refine gate_callee (f := 9) rfl ?_); refine goesL_ (some 20) rfl rfl Try.func9 (by kernel_rfl) rfl #[] rfl z2_ ?_; (with_reducible refine (formelaw10_head.calls k  t498 _ A4.out).mono ?_); rintro e w14 ⟨rfl, hb⟩; refine ⟨_, rfl, ?_⟩; have n0_ := Aside0.mk (blk_below (g := gb497) (o := .cells #[.int .i64 a1_0, .int .i64 a1_1, .int .i64 a1_2, .int .i64 a1_3, .string a1_4] 24 (0, 0)) z13_ hb); have n1_ := Aside0.mk (below_step z5_ hb); clear BK497; clear HB; have BK497 := n0_; have HB := n1_; clear n0_ n1_; (try clear hb); (try clear hb2); (try clear hk); (try clear hi)) | ((with_reducible refine gate_callee (f := 27) rfl ?_); refine goesL_ (some 22) rfl rfl Try.func27 (by kernel_rfl) rfl #[.slice A0 l0.length c0] rfl z2_ ?_; (with_reducible refine (formelaw10_usable.calls k _ _ l0 true _ ?side1 ?side2 A5.out).mono ?_); (case side1 => exact z10_); (case side2 => exact HC0.out); rintro e w15 ⟨rfl, hb⟩; refine ⟨_, rfl, ?_⟩; have n0_ := Aside0.mk (blk_below (g := gb497) (o := .cells #[.int .i64 a1_0, .int .i64 a1_1, .int .i64 a1_2, .int .i64 a1_3, .string a1_4] 24 (0, 0)) z13_ hb); have n1_ := Aside0.mk (below_step z5_ hb); clear BK497; clear HB; have BK497 := n0_; have HB := n1_; clear n0_ n1_; (try clear hb); (try clear hb2); (try clear hk); (try clear hi); have hcz16_0 : w15.cell? ⟨gb497, 0, none⟩ = some (.int .i64 a1_0) := (blk_cell BK497.out 0).trans rfl; have hcz16_1 : w15.cell? ⟨gb497, 1, none⟩ = some (.int .i64 a1_1) := (blk_cell BK497.out 1).trans rfl; have hcz16_2 : w15.cell? ⟨gb497, 2, none⟩ = some (.int .i64 a1_2) := (blk_cell BK497.out 2).trans rfl; have hcz16_3 : w15.cell? ⟨gb497, 3, none⟩ = some (.int .i64 a1_3) := (blk_cell BK497.out 3).trans rfl; have hcz16_4 : w15.cell? ⟨gb497, 4, none⟩ = some (.string a1_4) := (blk_cell BK497.out 4).trans rfl; have hfz16_0 := blk_frozen BK497.out 0; have hfz16_1 := blk_frozen BK497.out 1; have hfz16_2 := blk_frozen BK497.out 2; have hfz16_3 := blk_frozen BK497.out 3; have hfz16_4 := blk_frozen BK497.out 4) | ((with_reducible refine gate_callee (f := 20) rfl ?_); refine goesL_ (some 29) rfl rfl Try.func20 (by kernel_rfl) rfl #[.slice A0 l0.length c0, .agg #[.int .i64 a1_0, .int .i64 a1_1, .int .i64 a1_2, .int .i64 a1_3, .string a1_4], .int .i64 a2] rfl z2_ ?_; (with_reducible refine (tree_Insert.calls _ _ l0 a1_0 a1_1 a1_2 a1_3 a1_4 a2 t500 t503 _ ?side1 ?side2 A7.out).mono ?_); (case side1 => exact z10_); (case side2 => exact HC0.out); rintro e w17 ⟨v501, rfl, ho0, hb⟩; refine ⟨_, rfl, ?_⟩; have n0_ := Aside0.mk (Kd.R_lower (Kd.R_newB ho0 (g := gb497) (o := .cells #[.int .i64 a1_0, .int .i64 a1_1, .int .i64 a1_2, .int .i64 a1_3, .string a1_4] 24 (0, 0)) z13_) (below_size z5_)); have n1_ := Aside0.mk (blk_below (g := gb497) (o := .cells #[.int .i64 a1_0, .int .i64 a1_1, .int .i64 a1_2, .int .i64 a1_3, .string a1_4] 24 (0, 0)) z13_ hb); have n2_ := Aside0.mk (below_step z5_ hb); clear BK497; clear HB; have HO502 := n0_; have BK497 := n1_; have HB := n2_; clear n0_ n1_ n2_; (try clear hb); (try clear hb2); (try clear hk); (try clear hi); (try clear ho0); have hcz18_0 : w17.cell? ⟨gb497, 0, none⟩ = some (.int .i64 a1_0) := (blk_cell BK497.out 0).trans rfl; have hcz18_1 : w17.cell? ⟨gb497, 1, none⟩ = some (.int .i64 a1_1) := (blk_cell BK497.out 1).trans rfl; have hcz18_2 : w17.cell? ⟨gb497, 2, none⟩ = some (.int .i64 a1_2) := (blk_cell BK497.out 2).trans rfl; have hcz18_3 : w17.cell? ⟨gb497, 3, none⟩ = some (.int .i64 a1_3) := (blk_cell BK497.out 3).trans rfl; have hcz18_4 : w17.cell? ⟨gb497, 4, none⟩ = some (.string a1_4) := (blk_cell BK497.out 4).trans rfl; have hfz18_0 := blk_frozen BK497.out 0; have hfz18_1 := blk_frozen BK497.out 1; have hfz18_2 := blk_frozen BK497.out 2; have hfz18_3 := blk_frozen BK497.out 3; have hfz18_4 := blk_frozen BK497.out 4; obtain ⟨Ao19, co19, eo19⟩ := Kd.R_slice HO502.out; subst eo19) | ((with_reducible refine gate_callee (f := 15) rfl ?_); refine goesL_ (some 44) rfl rfl Try.func15 (by kernel_rfl) rfl #[.slice Ao19 t500.length co19, .int .i64 a1_1] rfl z2_ ?_; (with_reducible refine (tree_Kids.calls k _ _ t500 a1_1 t504 t505 _ ?side1 ?side2 A9.out).mono ?_); (case side1 => exact z29_); (case side2 => exact (Kd.R_reads' HO502.out).2.1); rintro e w20 ⟨v506, rfl, ho0, hb⟩; refine ⟨_, rfl, ?_⟩; have n0_ := Aside0.mk (Kd.R_below z32_ hb); have n1_ := Aside0.mk (Kd.R_lower ho0 (below_size z5_)); have n2_ := Aside0.mk (blk_below (g := gb497) (o := .cells #[.int .i64 a1_0, .int .i64 a1_1, .int .i64 a1_2, .int .i64 a1_3, .string a1_4] 24 (0, 0)) z13_ hb); have n3_ := Aside0.mk (below_step z5_ hb); clear HO502; clear BK497; clear HB; have HO502 := n0_; have HO507 := n1_; have BK497 := n2_; have HB := n3_; clear n0_ n1_ n2_ n3_; (try clear hb); (try clear hb2); (try clear hk); (try clear hi); (try clear ho0); have hcz21_0 : w20.cell? ⟨gb497, 0, none⟩ = some (.int .i64 a1_0) := (blk_cell BK497.out 0).trans rfl; have hcz21_1 : w20.cell? ⟨gb497, 1, none⟩ = some (.int .i64 a1_1) := (blk_cell BK497.out 1).trans rfl; have hcz21_2 : w20.cell? ⟨gb497, 2, none⟩ = some (.int .i64 a1_2) := (blk_cell BK497.out 2).trans rfl; have hcz21_3 : w20.cell? ⟨gb497, 3, none⟩ = some (.int .i64 a1_3) := (blk_cell BK497.out 3).trans rfl; have hcz21_4 : w20.cell? ⟨gb497, 4, none⟩ = some (.string a1_4) := (blk_cell BK497.out 4).trans rfl; have hfz21_0 := blk_frozen BK497.out 0; have hfz21_1 := blk_frozen BK497.out 1; have hfz21_2 := blk_frozen BK497.out 2; have hfz21_3 := blk_frozen BK497.out 3; have hfz21_4 := blk_frozen BK497.out 4) | ((with_reducible refine gate_callee (f := 11) rfl ?_); refine goesL_ (some 51) rfl rfl Try.func11 (by kernel_rfl) rfl #[.slice Ao19 t500.length co19, .int .i64 a1_0] rfl z2_ ?_; (with_reducible refine (tree_Find.calls _ _ t500 a1_0 t508 t509 t510 _ ?side1 ?side2 A10.out).mono ?_); (case side1 => exact z29_); (case side2 => exact (Kd.R_reads' HO502.out).2.1); rintro e w22 ⟨rfl, hb⟩; refine ⟨_, rfl, ?_⟩; have n0_ := Aside0.mk (Kd.R_below z32_ hb); have n1_ := Aside0.mk (Kd.R_below (by (with_reducible repeat (first | apply Kd.R_alloc | apply Kd.R_drewN | apply Kd.R_drew)); exact HO507.out) hb); have n2_ := Aside0.mk (blk_below (g := gb497) (o := .cells #[.int .i64 a1_0, .int .i64 a1_1, .int .i64 a1_2, .int .i64 a1_3, .string a1_4] 24 (0, 0)) z13_ hb); have n3_ := Aside0.mk (below_step z5_ hb); clear HO502; clear HO507; clear BK497; clear HB; have HO502 := n0_; have HO507 := n1_; have BK497 := n2_; have HB := n3_; clear n0_ n1_ n2_ n3_; (try clear hb); (try clear hb2); (try clear hk); (try clear hi); have hcz23_0 : w22.cell? ⟨gb497, 0, none⟩ = some (.int .i64 a1_0) := (blk_cell BK497.out 0).trans rfl; have hcz23_1 : w22.cell? ⟨gb497, 1, none⟩ = some (.int .i64 a1_1) := (blk_cell BK497.out 1).trans rfl; have hcz23_2 : w22.cell? ⟨gb497, 2, none⟩ = some (.int .i64 a1_2) := (blk_cell BK497.out 2).trans rfl; have hcz23_3 : w22.cell? ⟨gb497, 3, none⟩ = some (.int .i64 a1_3) := (blk_cell BK497.out 3).trans rfl; have hcz23_4 : w22.cell? ⟨gb497, 4, none⟩ = some (.string a1_4) := (blk_cell BK497.out 4).trans rfl; have hfz23_0 := blk_frozen BK497.out 0; have hfz23_1 := blk_frozen BK497.out 1; have hfz23_2 := blk_frozen BK497.out 2; have hfz23_3 := blk_frozen BK497.out 3; have hfz23_4 := blk_frozen BK497.out 4) | ((with_reducible refine gate_callee (f := 23) rfl ?_); refine goesL_ (some 59) rfl rfl Try.func23 (by kernel_rfl) rfl #[.slice Ao19 t500.length co19, .int .i64 a1_0] rfl z2_ ?_; (with_reducible refine (tree_Remove.calls _ _ t500 a1_0 t511 t512 _ ?side1 ?side2 A11.out).mono ?_); (case side1 => exact z29_); (case side2 => exact (Kd.R_reads' HO502.out).2.1); rintro e w24 ⟨v513, rfl, ho0, hb⟩; refine ⟨_, rfl, ?_⟩; have n0_ := Aside0.mk (Kd.R_elder' z32_ (Kd.R_base ho0) hb); have n1_ := Aside0.mk (Kd.R_below (by (with_reducible repeat (first | apply Kd.R_alloc | apply Kd.R_drewN | apply Kd.R_drew)); exact HO507.out) hb); have n2_ := Aside0.mk (Kd.R_lower (Kd.R_newB (Kd.R_new' ho0 (Kd.R_lt z32_)) (g := gb497) (o := .cells #[.int .i64 a1_0, .int .i64 a1_1, .int .i64 a1_2, .int .i64 a1_3, .string a1_4] 24 (0, 0)) z13_) (below_size z5_)); have n3_ := Aside0.mk (blk_below (g := gb497) (o := .cells #[.int .i64 a1_0, .int .i64 a1_1, .int .i64 a1_2, .int .i64 a1_3, .string a1_4] 24 (0, 0)) z13_ hb); have n4_ := Aside0.mk (below_step z5_ hb); clear HO502; clear HO507; clear BK497; clear HB; have HO502 := n0_; have HO507 := n1_; have HO514 := n2_; have BK497 := n3_; have HB := n4_; clear n0_ n1_ n2_ n3_ n4_; (try clear hb); (try clear hb2); (try clear hk); (try clear hi); (try clear ho0)))
   (try simp only [Act.put, List.setIfInBounds_toArray, List.set_cons_zero, List.set_cons_succ])
   go_cut [98] (fun v98 wc => ∃ (kq : Nat) (x98_11 : Bool), v98 = .bool x98_11 ∧ Aside0 (formelaw10_TreeInserts.j0 kq l0 a2 t498 t500 t504 t511 x98_11 a1_0 a1_1 a1_2 a1_3 a1_4 = some r) ∧ Aside0 (kq ≤ k) ∧ Aside0 (Kd.R k24 24 wc w.heap.size (fun k_ => some k_ ≠ (v513 : Value).ownBlock ∧ k_ ≠ gb497) (.slice Ao19 t500.length co19) t500) ∧ Aside0 (Kd.R (Kd.int .i64) 3 wc w.heap.size (fun _ => True) v506 t504) ∧ Aside0 (Kd.R k24 24 wc w.heap.size (fun k_ => some k_ ≠ ((.slice Ao19 t500.length co19) : Value).ownBlock ∧ k_ ≠ gb497) v513 t511) ∧ Aside0 (wc.heap[gb497]? = some (.cells #[.int .i64 a1_0, .int .i64 a1_1, .int .i64 a1_2, .int .i64 a1_3, .string a1_4] 24 (0, 0))) ∧ Aside0 (Below w.heap.size w wc))
   case first =>
    have H := HC12.out
    clear HC12
    by_cases c25 : t505 = 0
    ·rw [if_pos c25] at H
     have c25b0 : (t505 == 0) = true := beq_iff_eq.mpr c25
     have c25b1 : (t505 != 0) = false := bne_eq_false_iff_eq.mpr c25
     clear c25
     (first | rw [c25b0] | (simp only [i64_w, i32_w]; rw [c25b0]) | skip)
     by_cases c26 : t510 = 0
     ·rw [if_pos c26] at H
      have c26b0 : (t510 == 0) = true := beq_iff_eq.mpr c26
      have c26b1 : (t510 != 0) = false := bne_eq_false_iff_eq.mpr c26
      clear c26
      by_cases c27 : t512 = 0
      ·rw [if_pos c27] at H
       have c27b0 : (t512 == 0) = true := beq_iff_eq.mpr c27
       have c27b1 : (t512 != 0) = false := bne_eq_false_iff_eq.mpr c27
       clear c27
       by_cases c28 : t509 = true
       ·subst c28
        have H1 : (if t508 ≥ (t500.length : Int) then (formelaw10_TreeInserts.j0 k l0 a2 t498 t500 t504 t511 true a1_0 a1_1 a1_2 a1_3 a1_4) else (if t508 < 1 then (formelaw10_TreeInserts.j0 k l0 a2 t498 t500 t504 t511 true a1_0 a1_1 a1_2 a1_3 a1_4) else (if 0 ≤ t508 then (if t508 < (t500.length : Int) then (if (!(((rd_T24 t500 t508).f0) == a1_0) || (!(((rd_T24 t500 t508).f1) == a1_1) || (!(((rd_T24 t500 t508).f2) == a1_2) || (!(((rd_T24 t500 t508).f3) == a1_3) || (!((((rd_T24 t500 t508).f4).toList) == a1_4.toList)))))) = true then (formelaw10_TreeInserts.j0 k l0 a2 t498 t500 t504 t511 true a1_0 a1_1 a1_2 a1_3 a1_4) else ((tree_Valid.f t500).bind fun t516 => (formelaw10_TreeInserts.j0 k l0 a2 t498 t500 t504 t511 (!t516) a1_0 a1_1 a1_2 a1_3 a1_4))) else (none)) else (none)))) = some r := by rw [if_pos rfl] at H; exact H
        clear H
        have H := H1
        clear H1
        by_cases c29 : t508 ≥ (t500.length : Int)
        ·rw [if_pos c29] at H
         have c29b0 : decide ((t500.length : Int) ≤ t508) = true := decide_eq_true c29
         clear c29
         have H' := Aside0.mk H
         clear H
         try go_wp2
         have n0_ := Aside0.mk (Kd.R_drew HO502.out)
         have n1_ := Aside0.mk (Kd.R_drew HO507.out)
         have n2_ := Aside0.mk (Kd.R_drew HO514.out)
         have n3_ := Aside0.mk (blk_drew BK497.out)
         have n4_ := Aside0.mk (below_drew1 HB.out)
         clear HO502
         clear HO507
         clear HO514
         clear BK497
         clear HB
         have HO502 := n0_
         have HO507 := n1_
         have HO514 := n2_
         have BK497 := n3_
         have HB := n4_
         clear n0_ n1_ n2_ n3_ n4_
         refine start_ (n := 37) (S := fun w' => True) (ds := []) #[false, false, false, false, false, false, false, false, false, false, false, false, false, false, false, false, false, false, false, false, false, false, false, false, false, false, false, false, false, false, false, false, false, false, false, false, false] (by kernel_rfl) rfl rfl trivial (fun hHeld => ?_); refine with_tabW formelaw10_TreeInserts.tab10 formelaw10_TreeInserts.bits10 (fun HT_ HW_ => ?_)
         generalize w24.drew = w30 at HO502 HO507 HO514 BK497 HB hHeld ⊢
         refine pz_ 0 (some 62) ?_
         refine pz_ 1 (some 63) ?_
         refine pz_ 2 (some 64) ?_
         refine pz_ 3 (some 65) ?_
         refine pz_ 4 (some 66) ?_
         refine pz_ 5 (some 67) ?_
         refine pz_ 6 (some 68) ?_
         refine pz_ 7 (some 69) ?_
         refine pz_ 8 (some 70) ?_
         refine pz_ 9 (some 71) ?_
         refine pz_ 10 (some 72) ?_
         refine pz_ 11 (some 73) ?_
         refine pz_ 12 (some 74) ?_
         refine pz_ 13 (some 75) ?_
         refine pz_ 14 (some 76) ?_
         refine pz_ 15 (some 77) ?_
         refine pz_ 16 (some 78) ?_
         refine pz_ 17 (some 79) ?_
         refine pz_ 18 (some 80) ?_
         refine pz_ 19 (some 81) ?_
         refine pz_ 20 (some 82) ?_
         refine pn_ 21 (some 83) ?_
         refine pn_ 22 (some 84) ?_
         refine pz_ 23 (some 85) ?_
         refine pz_ 24 (some 86) ?_
         refine pn_ 25 (some 87) ?_
         refine pn_ 26 (some 88) ?_
         refine pn_ 27 (some 89) ?_
         refine pn_ 28 (some 90) ?_
         refine pn_ 29 (some 91) ?_
         refine pn_ 30 (some 92) ?_
         refine pz_ 31 (some 93) ?_
         refine pz_ 32 (some 94) ?_
         refine pn_ 33 (some 95) ?_
         refine pn_ 34 (some 96) ?_
         refine pn_ 35 (some 97) ?_
         refine pz_ 36 (some 98) ?_
         refine done_ (done_of HT_.out (by kernel_rfl)) ?_
         try go_wp2
         go_meet
         case rel => exact ⟨_, (true), z8_, H', ⟨by first | omega | exact Nat.le_refl _⟩, ⟨by (with_reducible repeat (first | apply Kd.R_alloc | apply Kd.R_drewN | apply Kd.R_drew)); exact Kd.R_mono HO502.out (fun _ hk => ⟨hk.2, hk.1.2⟩)⟩, ⟨by (with_reducible repeat (first | apply Kd.R_alloc | apply Kd.R_drewN | apply Kd.R_drew)); exact HO507.out⟩, ⟨by (with_reducible repeat (first | apply Kd.R_alloc | apply Kd.R_drewN | apply Kd.R_drew)); exact Kd.R_mono HO514.out (fun _ hk => ⟨hk.1.2, hk.2⟩)⟩, ⟨by (with_reducible repeat (first | refine blk_drewN ?_ _ | refine blk_drew ?_ | refine blk_alloc ?_ _)); exact BK497.out⟩, ⟨by repeat (first | (with_reducible first | exact HB.out | apply below_alloc | apply pw_below_drewN | apply below_drew1 | refine below_set ?_ GE497.out) | exact HB.out)⟩⟩
        ·rw [if_neg c29] at H
         have c29b0 : decide ((t500.length : Int) ≤ t508) = false := decide_eq_false c29
         clear c29
         by_cases c31 : t508 < 1
         ·rw [if_pos c31] at H
          have c31b0 : decide (t508 < 1) = true := decide_eq_true c31
          clear c31
          have H' := Aside0.mk H
          clear H
          try go_wp2
          have n0_ := Aside0.mk (Kd.R_drew HO502.out)
          have n1_ := Aside0.mk (Kd.R_drew HO507.out)
          have n2_ := Aside0.mk (Kd.R_drew HO514.out)
          have n3_ := Aside0.mk (blk_drew BK497.out)
          have n4_ := Aside0.mk (below_drew1 HB.out)
          clear HO502
          clear HO507
          clear HO514
          clear BK497
          clear HB
          have HO502 := n0_
          have HO507 := n1_
          have HO514 := n2_
          have BK497 := n3_
          have HB := n4_
          clear n0_ n1_ n2_ n3_ n4_
          refine start_ (n := 37) (S := fun w' => True) (ds := []) #[false, false, false, false, false, false, false, false, false, false, false, false, false, false, false, false, false, false, false, false, false, false, false, false, false, false, false, false, false, false, false, false, false, false, false, false, false] (by kernel_rfl) rfl rfl trivial (fun hHeld => ?_); refine with_tabW formelaw10_TreeInserts.tab10 formelaw10_TreeInserts.bits10 (fun HT_ HW_ => ?_)
          generalize w24.drew = w32 at HO502 HO507 HO514 BK497 HB hHeld ⊢
          refine pz_ 0 (some 62) ?_
          refine pz_ 1 (some 63) ?_
          refine pz_ 2 (some 64) ?_
          refine pz_ 3 (some 65) ?_
          refine pz_ 4 (some 66) ?_
          refine pz_ 5 (some 67) ?_
          refine pz_ 6 (some 68) ?_
          refine pz_ 7 (some 69) ?_
          refine pz_ 8 (some 70) ?_
          refine pz_ 9 (some 71) ?_
          refine pz_ 10 (some 72) ?_
          refine pz_ 11 (some 73) ?_
          refine pz_ 12 (some 74) ?_
          refine pz_ 13 (some 75) ?_
          refine pz_ 14 (some 76) ?_
          refine pz_ 15 (some 77) ?_
          refine pz_ 16 (some 78) ?_
          refine pz_ 17 (some 79) ?_
          refine pz_ 18 (some 80) ?_
          refine pz_ 19 (some 81) ?_
          refine pz_ 20 (some 82) ?_
          refine pz_ 21 (some 83) ?_
          refine pz_ 22 (some 84) ?_
          refine pz_ 23 (some 85) ?_
          refine pz_ 24 (some 86) ?_
          refine pn_ 25 (some 87) ?_
          refine pn_ 26 (some 88) ?_
          refine pn_ 27 (some 89) ?_
          refine pn_ 28 (some 90) ?_
          refine pn_ 29 (some 91) ?_
          refine pn_ 30 (some 92) ?_
          refine pz_ 31 (some 93) ?_
          refine pz_ 32 (some 94) ?_
          refine pn_ 33 (some 95) ?_
          refine pn_ 34 (some 96) ?_
          refine pn_ 35 (some 97) ?_
          refine pz_ 36 (some 98) ?_
          refine done_ (done_of HT_.out (by kernel_rfl)) ?_
          try go_wp2
          go_meet
          case rel => exact ⟨_, (true), z8_, H', ⟨by first | omega | exact Nat.le_refl _⟩, ⟨by (with_reducible repeat (first | apply Kd.R_alloc | apply Kd.R_drewN | apply Kd.R_drew)); exact Kd.R_mono HO502.out (fun _ hk => ⟨hk.2, hk.1.2⟩)⟩, ⟨by (with_reducible repeat (first | apply Kd.R_alloc | apply Kd.R_drewN | apply Kd.R_drew)); exact HO507.out⟩, ⟨by (with_reducible repeat (first | apply Kd.R_alloc | apply Kd.R_drewN | apply Kd.R_drew)); exact Kd.R_mono HO514.out (fun _ hk => ⟨hk.1.2, hk.2⟩)⟩, ⟨by (with_reducible repeat (first | refine blk_drewN ?_ _ | refine blk_drew ?_ | refine blk_alloc ?_ _)); exact BK497.out⟩, ⟨by repeat (first | (with_reducible first | exact HB.out | apply below_alloc | apply pw_below_drewN | apply below_drew1 | refine below_set ?_ GE497.out) | exact HB.out)⟩⟩
         ·rw [if_neg c31] at H
          have c31b0 : decide (t508 < 1) = false := decide_eq_false c31
          clear c31
          by_cases c33 : 0 ≤ t508
          rotate_left
          ·rw [if_neg c33] at H; exact absurd H (by simp)
          rw [if_pos c33] at H
          have c33b0 : decide (0 ≤ t508) = true := decide_eq_true c33
          clear c33
          by_cases c34 : t508 < (t500.length : Int)
          rotate_left
          ·rw [if_neg c34] at H; exact absurd H (by simp)
          rw [if_pos c34] at H
          have c34b0 : decide (t508 < (t500.length : Int)) = true := decide_eq_true c34
          clear c34
          by_cases c35 : (!(((rd_T24 t500 t508).f0) == a1_0) || (!(((rd_T24 t500 t508).f1) == a1_1) || (!(((rd_T24 t500 t508).f2) == a1_2) || (!(((rd_T24 t500 t508).f3) == a1_3) || (!((((rd_T24 t500 t508).f4).toList) == a1_4.toList)))))) = true
          ·rw [if_pos c35] at H
           have c35b0 : (!(((rd_T24 t500 t508).f0) == a1_0) || (!(((rd_T24 t500 t508).f1) == a1_1) || (!(((rd_T24 t500 t508).f2) == a1_2) || (!(((rd_T24 t500 t508).f3) == a1_3) || (!((((rd_T24 t500 t508).f4).toList) == a1_4.toList)))))) = true := c35
           clear c35
           have H' := Aside0.mk H
           clear H
           try go_wp2
           have n0_ := Aside0.mk (Kd.R_drew HO502.out)
           have n1_ := Aside0.mk (Kd.R_drew HO507.out)
           have n2_ := Aside0.mk (Kd.R_drew HO514.out)
           have n3_ := Aside0.mk (blk_drew BK497.out)
           have n4_ := Aside0.mk (below_drew1 HB.out)
           clear HO502
           clear HO507
           clear HO514
           clear BK497
           clear HB
           have HO502 := n0_
           have HO507 := n1_
           have HO514 := n2_
           have BK497 := n3_
           have HB := n4_
           clear n0_ n1_ n2_ n3_ n4_
           have p515 : 0 ≤ (t508 : Int) := of_decide_eq_true z3_
           have q515 : t508 < (t500.length : Int) := of_decide_eq_true z3_
           obtain ⟨ad515, e515, hx515_0, hx515_1, hx515_2, hx515_3, hx515_4⟩ := at_T24 (Kd.R_reads' HO502.out).2.2 t508 p515 q515
           cases e515
           replace p515 := eq_true p515
           replace q515 := eq_true q515
           refine start_ (n := 37) (S := fun w' => w'.cell? ⟨gb497, 0, none⟩ = some (.int .i64 a1_0) ∧ w'.cell? ⟨gb497, 1, none⟩ = some (.int .i64 a1_1) ∧ w'.cell? ⟨gb497, 2, none⟩ = some (.int .i64 a1_2) ∧ w'.cell? ⟨gb497, 3, none⟩ = some (.int .i64 a1_3) ∧ w'.cell? ⟨gb497, 4, none⟩ = some (.string a1_4) ∧ w'.cell? (ad515.add ((t508).toNat * 5)) = some (.int .i64 ((rd_T24 t500 t508).f0)) ∧ w'.cell? ⟨(ad515.add ((t508).toNat * 5)).block, (ad515.add ((t508).toNat * 5)).off + 1, none⟩ = some (.int .i64 ((rd_T24 t500 t508).f1)) ∧ w'.cell? ⟨(ad515.add ((t508).toNat * 5)).block, (ad515.add ((t508).toNat * 5)).off + 2, none⟩ = some (.int .i64 ((rd_T24 t500 t508).f2)) ∧ w'.cell? ⟨(ad515.add ((t508).toNat * 5)).block, (ad515.add ((t508).toNat * 5)).off + 3, none⟩ = some (.int .i64 ((rd_T24 t500 t508).f3)) ∧ w'.cell? ⟨(ad515.add ((t508).toNat * 5)).block, (ad515.add ((t508).toNat * 5)).off + 4, none⟩ = some (.string ((rd_T24 t500 t508).f4))) (ds := []) #[false, false, false, false, false, false, false, false, false, false, false, false, false, false, false, false, false, false, false, false, false, false, false, false, false, false, false, false, false, false, false, false, false, false, false, false, false] (by kernel_rfl) rfl rfl ⟨(blk_cell BK497.out 0).trans rfl, (blk_cell BK497.out 1).trans rfl, (blk_cell BK497.out 2).trans rfl, (blk_cell BK497.out 3).trans rfl, (blk_cell BK497.out 4).trans rfl, hx515_0, hx515_1, hx515_2, hx515_3, hx515_4⟩ (fun hHeld => ?_); refine with_tabW formelaw10_TreeInserts.tab10 formelaw10_TreeInserts.bits10 (fun HT_ HW_ => ?_)
           generalize w24.drew = w36 at HO502 HO507 HO514 BK497 HB hx515_0 hx515_1 hx515_2 hx515_3 hx515_4 hHeld ⊢
           refine pz_ 0 (some 62) ?_
           refine pz_ 1 (some 63) ?_
           refine pz_ 2 (some 64) ?_
           refine pz_ 3 (some 65) ?_
           refine pz_ 4 (some 66) ?_
           refine pz_ 5 (some 67) ?_
           refine pz_ 6 (some 68) ?_
           refine pz_ 7 (some 69) ?_
           refine pz_ 8 (some 70) ?_
           refine pz_ 9 (some 71) ?_
           refine pz_ 10 (some 72) ?_
           refine pz_ 11 (some 73) ?_
           refine pz_ 12 (some 74) ?_
           refine pz_ 13 (some 75) ?_
           refine pz_ 14 (some 76) ?_
           refine pz_ 15 (some 77) ?_
           refine pz_ 16 (some 78) ?_
           refine pz_ 17 (some 79) ?_
           refine pz_ 18 (some 80) ?_
           refine pz_ 19 (some 81) ?_
           refine pz_ 20 (some 82) ?_
           refine pz_ 21 (some 83) ?_
           refine pz_ 22 (some 84) ?_
           refine pz_ 23 (some 85) ?_
           refine pz_ 24 (some 86) ?_
           refine pz_ 25 (some 87) ?_
           refine pz_ 26 (some 88) ?_
           refine pz_ 27 (some 89) ?_
           refine tz_ 28 (some 90) hHeld ?_
           refine tz_ 29 (some 91) hHeld ?_
           refine pz_ 30 (some 92) ?_
           refine pz_ 31 (some 93) ?_
           refine pz_ 32 (some 94) ?_
           refine pn_ 33 (some 95) ?_
           refine pn_ 34 (some 96) ?_
           refine pn_ 35 (some 97) ?_
           refine pz_ 36 (some 98) ?_
           refine done_ (done_of HT_.out (by kernel_rfl)) ?_
           try go_wp2
           go_meet
           case rel => exact ⟨_, (true), z8_, H', ⟨by first | omega | exact Nat.le_refl _⟩, ⟨by (with_reducible repeat (first | apply Kd.R_alloc | apply Kd.R_drewN | apply Kd.R_drew)); exact Kd.R_mono HO502.out (fun _ hk => ⟨hk.2, hk.1.2⟩)⟩, ⟨by (with_reducible repeat (first | apply Kd.R_alloc | apply Kd.R_drewN | apply Kd.R_drew)); exact HO507.out⟩, ⟨by (with_reducible repeat (first | apply Kd.R_alloc | apply Kd.R_drewN | apply Kd.R_drew)); exact Kd.R_mono HO514.out (fun _ hk => ⟨hk.1.2, hk.2⟩)⟩, ⟨by (with_reducible repeat (first | refine blk_drewN ?_ _ | refine blk_drew ?_ | refine blk_alloc ?_ _)); exact BK497.out⟩, ⟨by repeat (first | (with_reducible first | exact HB.out | apply below_alloc | apply pw_below_drewN | apply below_drew1 | refine below_set ?_ GE497.out) | exact HB.out)⟩⟩
          ·rw [if_neg c35] at H
           have c35b0 : (!(((rd_T24 t500 t508).f0) == a1_0) || (!(((rd_T24 t500 t508).f1) == a1_1) || (!(((rd_T24 t500 t508).f2) == a1_2) || (!(((rd_T24 t500 t508).f3) == a1_3) || (!((((rd_T24 t500 t508).f4).toList) == a1_4.toList)))))) = false := by simpa using c35
           clear c35
           replace H := Option.bind_eq_some_iff.mp H
           obtain ⟨t516, A370, H⟩ := H
           try dsimp only at H
           have A37 := Aside0.mk A370
           clear A370
           have H' := Aside0.mk H
           clear H
           try go_wp2
           have n0_ := Aside0.mk (Kd.R_drew HO502.out)
           have n1_ := Aside0.mk (Kd.R_drew HO507.out)
           have n2_ := Aside0.mk (Kd.R_drew HO514.out)
           have n3_ := Aside0.mk (blk_drew BK497.out)
           have n4_ := Aside0.mk (below_drew1 HB.out)
           clear HO502
           clear HO507
           clear HO514
           clear BK497
           clear HB
           have HO502 := n0_
           have HO507 := n1_
           have HO514 := n2_
           have BK497 := n3_
           have HB := n4_
           clear n0_ n1_ n2_ n3_ n4_
           have p515 : 0 ≤ (t508 : Int) := of_decide_eq_true z3_
           have q515 : t508 < (t500.length : Int) := of_decide_eq_true z3_
           obtain ⟨ad515, e515, hx515_0, hx515_1, hx515_2, hx515_3, hx515_4⟩ := at_T24 (Kd.R_reads' HO502.out).2.2 t508 p515 q515
           cases e515
           replace p515 := eq_true p515
           replace q515 := eq_true q515
           refine start_ (n := 37) (S := fun w' => w'.cell? ⟨gb497, 0, none⟩ = some (.int .i64 a1_0) ∧ w'.cell? ⟨gb497, 1, none⟩ = some (.int .i64 a1_1) ∧ w'.cell? ⟨gb497, 2, none⟩ = some (.int .i64 a1_2) ∧ w'.cell? ⟨gb497, 3, none⟩ = some (.int .i64 a1_3) ∧ w'.cell? ⟨gb497, 4, none⟩ = some (.string a1_4) ∧ w'.cell? (ad515.add ((t508).toNat * 5)) = some (.int .i64 ((rd_T24 t500 t508).f0)) ∧ w'.cell? ⟨(ad515.add ((t508).toNat * 5)).block, (ad515.add ((t508).toNat * 5)).off + 1, none⟩ = some (.int .i64 ((rd_T24 t500 t508).f1)) ∧ w'.cell? ⟨(ad515.add ((t508).toNat * 5)).block, (ad515.add ((t508).toNat * 5)).off + 2, none⟩ = some (.int .i64 ((rd_T24 t500 t508).f2)) ∧ w'.cell? ⟨(ad515.add ((t508).toNat * 5)).block, (ad515.add ((t508).toNat * 5)).off + 3, none⟩ = some (.int .i64 ((rd_T24 t500 t508).f3)) ∧ w'.cell? ⟨(ad515.add ((t508).toNat * 5)).block, (ad515.add ((t508).toNat * 5)).off + 4, none⟩ = some (.string ((rd_T24 t500 t508).f4))) (ds := []) #[false, false, false, false, false, false, false, false, false, false, false, false, false, false, false, false, false, false, false, false, false, false, false, false, false, false, false, false, false, false, false, false, false, false, false, false, false] (by kernel_rfl) rfl rfl ⟨(blk_cell BK497.out 0).trans rfl, (blk_cell BK497.out 1).trans rfl, (blk_cell BK497.out 2).trans rfl, (blk_cell BK497.out 3).trans rfl, (blk_cell BK497.out 4).trans rfl, hx515_0, hx515_1, hx515_2, hx515_3, hx515_4⟩ (fun hHeld => ?_); refine with_tabW formelaw10_TreeInserts.tab10 formelaw10_TreeInserts.bits10 (fun HT_ HW_ => ?_)
           generalize w24.drew = w38 at HO502 HO507 HO514 BK497 HB hx515_0 hx515_1 hx515_2 hx515_3 hx515_4 hHeld ⊢
           refine pz_ 0 (some 62) ?_
           refine pz_ 1 (some 63) ?_
           refine pz_ 2 (some 64) ?_
           refine pz_ 3 (some 65) ?_
           refine pz_ 4 (some 66) ?_
           refine pz_ 5 (some 67) ?_
           refine pz_ 6 (some 68) ?_
           refine pz_ 7 (some 69) ?_
           refine pz_ 8 (some 70) ?_
           refine pz_ 9 (some 71) ?_
           refine pz_ 10 (some 72) ?_
           refine pz_ 11 (some 73) ?_
           refine pz_ 12 (some 74) ?_
           refine pz_ 13 (some 75) ?_
           refine pz_ 14 (some 76) ?_
           refine pz_ 15 (some 77) ?_
           refine pz_ 16 (some 78) ?_
           refine pz_ 17 (some 79) ?_
           refine pz_ 18 (some 80) ?_
           refine pz_ 19 (some 81) ?_
           refine pz_ 20 (some 82) ?_
           refine pz_ 21 (some 83) ?_
           refine pz_ 22 (some 84) ?_
           refine pz_ 23 (some 85) ?_
           refine pz_ 24 (some 86) ?_
           refine pz_ 25 (some 87) ?_
           refine pz_ 26 (some 88) ?_
           refine pz_ 27 (some 89) ?_
           refine tz_ 28 (some 90) hHeld ?_
           refine tz_ 29 (some 91) hHeld ?_
           refine pz_ 30 (some 92) ?_
           refine pz_ 31 (some 93) ?_
           refine pz_ 32 (some 94) ?_
           refine pz_ 33 (some 95) ?_
           refine oz_ 34 (some 96) (fun K hK => ?_)
           refine goes_ Try.func13 (by kernel_rfl) rfl #[.slice (some ad515) t500.length co19] (by rfl) rfl rfl z2_ ?_
           with_reducible refine (tree_Valid.calls _ _ t500 t516 _ ?side1 ?side2 A37.out).mono ?_
           (case side1 => exact z29_)
           (case side2 => exact (Kd.R_reads' HO502.out).2.1)
           rintro e w39 ⟨rfl, hb⟩
           have HS5_ := hbc_ hb hHeld.2.2.2.2.2.1
           have HS6_ := hbc_ hb hHeld.2.2.2.2.2.2.1
           have HS7_ := hbc_ hb hHeld.2.2.2.2.2.2.2.1
           have HS8_ := hbc_ hb hHeld.2.2.2.2.2.2.2.2.1
           have HS9_ := hbc_ hb hHeld.2.2.2.2.2.2.2.2.2
           refine ⟨_, rfl, ?_⟩
           have n0_ := Aside0.mk (Kd.R_below z32_ hb)
           have n1_ := Aside0.mk (Kd.R_below (by (with_reducible repeat (first | apply Kd.R_alloc | apply Kd.R_drewN | apply Kd.R_drew)); exact HO507.out) hb)
           have n2_ := Aside0.mk (Kd.R_below (by (with_reducible repeat (first | apply Kd.R_alloc | apply Kd.R_drewN | apply Kd.R_drew)); exact HO514.out) hb)
           have n3_ := Aside0.mk (blk_below (g := gb497) (o := .cells #[.int .i64 a1_0, .int .i64 a1_1, .int .i64 a1_2, .int .i64 a1_3, .string a1_4] 24 (0, 0)) z13_ hb)
           have n4_ := Aside0.mk (below_step z5_ hb)
           clear HO502
           clear HO507
           clear HO514
           clear BK497
           clear HB
           have HO502 := n0_
           have HO507 := n1_
           have HO514 := n2_
           have BK497 := n3_
           have HB := n4_
           clear n0_ n1_ n2_ n3_ n4_
           (try clear hb)
           (try clear hb2)
           (try clear hk)
           (try clear hi)
           refine hK.out _ _ ⟨(blk_cell BK497.out 0).trans rfl, (blk_cell BK497.out 1).trans rfl, (blk_cell BK497.out 2).trans rfl, (blk_cell BK497.out 3).trans rfl, (blk_cell BK497.out 4).trans rfl, HS5_, HS6_, HS7_, HS8_, HS9_⟩ (fun hHeld => ?_)
           clear hK K
           refine norm_ (a' := ?_) ?_ ?_
           rotate_left
           ·show Act.put _ (some 96) _ = _
            simp only [Act.put, List.setIfInBounds_toArray, List.set_cons_zero, List.set_cons_succ, i64_w, i32_w]
            rfl
           refine pz_ 35 (some 97) ?_
           refine pz_ 36 (some 98) ?_
           refine done_ (done_of HT_.out (by kernel_rfl)) ?_
           try go_wp2
           go_meet
           case rel => exact ⟨_, (!t516), z8_, H', ⟨by first | omega | exact Nat.le_refl _⟩, ⟨by (with_reducible repeat (first | apply Kd.R_alloc | apply Kd.R_drewN | apply Kd.R_drew)); exact Kd.R_mono HO502.out (fun _ hk => ⟨hk.2, hk.1.2⟩)⟩, ⟨by (with_reducible repeat (first | apply Kd.R_alloc | apply Kd.R_drewN | apply Kd.R_drew)); exact HO507.out⟩, ⟨by (with_reducible repeat (first | apply Kd.R_alloc | apply Kd.R_drewN | apply Kd.R_drew)); exact Kd.R_mono HO514.out (fun _ hk => ⟨hk.1.2, hk.2⟩)⟩, ⟨by (with_reducible repeat (first | refine blk_drewN ?_ _ | refine blk_drew ?_ | refine blk_alloc ?_ _)); exact BK497.out⟩, ⟨by repeat (first | (with_reducible first | exact HB.out | apply below_alloc | apply pw_below_drewN | apply below_drew1 | refine below_set ?_ GE497.out) | exact HB.out)⟩⟩
       ·replace c28 := Bool.eq_false_iff.mpr c28
        subst c28
        have H1 : (formelaw10_TreeInserts.j0 k l0 a2 t498 t500 t504 t511 true a1_0 a1_1 a1_2 a1_3 a1_4) = some r := by rw [if_neg (show ¬ (false = true) by decide)] at H; exact H
        clear H
        have H := H1
        clear H1
        have H' := Aside0.mk H
        clear H
        try go_wp2
        have n0_ := Aside0.mk (Kd.R_drew HO502.out)
        have n1_ := Aside0.mk (Kd.R_drew HO507.out)
        have n2_ := Aside0.mk (Kd.R_drew HO514.out)
        have n3_ := Aside0.mk (blk_drew BK497.out)
        have n4_ := Aside0.mk (below_drew1 HB.out)
        clear HO502
        clear HO507
        clear HO514
        clear BK497
        clear HB
        have HO502 := n0_
        have HO507 := n1_
        have HO514 := n2_
        have BK497 := n3_
        have HB := n4_
        clear n0_ n1_ n2_ n3_ n4_
        refine start_ (n := 37) (S := fun w' => True) (ds := []) #[false, false, false, false, false, false, false, false, false, false, false, false, false, false, false, false, false, false, false, false, false, false, false, false, false, false, false, false, false, false, false, false, false, false, false, false, false] (by kernel_rfl) rfl rfl trivial (fun hHeld => ?_); refine with_tabW formelaw10_TreeInserts.tab10 formelaw10_TreeInserts.bits10 (fun HT_ HW_ => ?_)
        generalize w24.drew = w40 at HO502 HO507 HO514 BK497 HB hHeld ⊢
        refine pz_ 0 (some 62) ?_
        refine pz_ 1 (some 63) ?_
        refine pz_ 2 (some 64) ?_
        refine pz_ 3 (some 65) ?_
        refine pz_ 4 (some 66) ?_
        refine pz_ 5 (some 67) ?_
        refine pz_ 6 (some 68) ?_
        refine pz_ 7 (some 69) ?_
        refine pz_ 8 (some 70) ?_
        refine pz_ 9 (some 71) ?_
        refine pz_ 10 (some 72) ?_
        refine pz_ 11 (some 73) ?_
        refine pz_ 12 (some 74) ?_
        refine pz_ 13 (some 75) ?_
        refine pz_ 14 (some 76) ?_
        refine pn_ 15 (some 77) ?_
        refine pn_ 16 (some 78) ?_
        refine pn_ 17 (some 79) ?_
        refine pn_ 18 (some 80) ?_
        refine pz_ 19 (some 81) ?_
        refine pz_ 20 (some 82) ?_
        refine pn_ 21 (some 83) ?_
        refine pn_ 22 (some 84) ?_
        refine pz_ 23 (some 85) ?_
        refine pz_ 24 (some 86) ?_
        refine pn_ 25 (some 87) ?_
        refine pn_ 26 (some 88) ?_
        refine pn_ 27 (some 89) ?_
        refine pn_ 28 (some 90) ?_
        refine pn_ 29 (some 91) ?_
        refine pn_ 30 (some 92) ?_
        refine pz_ 31 (some 93) ?_
        refine pz_ 32 (some 94) ?_
        refine pn_ 33 (some 95) ?_
        refine pn_ 34 (some 96) ?_
        refine pn_ 35 (some 97) ?_
        refine pz_ 36 (some 98) ?_
        refine done_ (done_of HT_.out (by kernel_rfl)) ?_
        try go_wp2
        go_meet
        case rel => exact ⟨_, (true), z8_, H', ⟨by first | omega | exact Nat.le_refl _⟩, ⟨by (with_reducible repeat (first | apply Kd.R_alloc | apply Kd.R_drewN | apply Kd.R_drew)); exact Kd.R_mono HO502.out (fun _ hk => ⟨hk.2, hk.1.2⟩)⟩, ⟨by (with_reducible repeat (first | apply Kd.R_alloc | apply Kd.R_drewN | apply Kd.R_drew)); exact HO507.out⟩, ⟨by (with_reducible repeat (first | apply Kd.R_alloc | apply Kd.R_drewN | apply Kd.R_drew)); exact Kd.R_mono HO514.out (fun _ hk => ⟨hk.1.2, hk.2⟩)⟩, ⟨by (with_reducible repeat (first | refine blk_drewN ?_ _ | refine blk_drew ?_ | refine blk_alloc ?_ _)); exact BK497.out⟩, ⟨by repeat (first | (with_reducible first | exact HB.out | apply below_alloc | apply pw_below_drewN | apply below_drew1 | refine below_set ?_ GE497.out) | exact HB.out)⟩⟩
      ·rw [if_neg c27] at H
       have c27b0 : (t512 == 0) = false := beq_eq_false_iff_ne.mpr c27
       have c27b1 : (t512 != 0) = true := bne_iff_ne.mpr c27
       have H' := Aside0.mk H
       clear H
       try go_wp2
       have n0_ := Aside0.mk (Kd.R_drew HO502.out)
       have n1_ := Aside0.mk (Kd.R_drew HO507.out)
       have n2_ := Aside0.mk (Kd.R_drew HO514.out)
       have n3_ := Aside0.mk (blk_drew BK497.out)
       have n4_ := Aside0.mk (below_drew1 HB.out)
       clear HO502
       clear HO507
       clear HO514
       clear BK497
       clear HB
       have HO502 := n0_
       have HO507 := n1_
       have HO514 := n2_
       have BK497 := n3_
       have HB := n4_
       clear n0_ n1_ n2_ n3_ n4_
       refine start_ (n := 37) (S := fun w' => True) (ds := []) #[false, false, false, false, false, false, false, false, false, false, false, false, false, false, false, false, false, false, false, false, false, false, false, false, false, false, false, false, false, false, false, false, false, false, false, false, false] (by kernel_rfl) rfl rfl trivial (fun hHeld => ?_); refine with_tabW formelaw10_TreeInserts.tab10 formelaw10_TreeInserts.bits10 (fun HT_ HW_ => ?_)
       generalize w24.drew = w41 at HO502 HO507 HO514 BK497 HB hHeld ⊢
       refine pz_ 0 (some 62) ?_
       refine pz_ 1 (some 63) ?_
       refine pz_ 2 (some 64) ?_
       refine pz_ 3 (some 65) ?_
       refine pz_ 4 (some 66) ?_
       refine pz_ 5 (some 67) ?_
       refine pz_ 6 (some 68) ?_
       refine pz_ 7 (some 69) ?_
       refine pz_ 8 (some 70) ?_
       refine pz_ 9 (some 71) ?_
       refine pz_ 10 (some 72) ?_
       refine pn_ 11 (some 73) ?_
       refine pn_ 12 (some 74) ?_
       refine pz_ 13 (some 75) ?_
       refine pz_ 14 (some 76) ?_
       refine pn_ 15 (some 77) ?_
       refine pn_ 16 (some 78) ?_
       refine pn_ 17 (some 79) ?_
       refine pn_ 18 (some 80) ?_
       refine pz_ 19 (some 81) ?_
       refine pz_ 20 (some 82) ?_
       refine pn_ 21 (some 83) ?_
       refine pn_ 22 (some 84) ?_
       refine pz_ 23 (some 85) ?_
       refine pz_ 24 (some 86) ?_
       refine pn_ 25 (some 87) ?_
       refine pn_ 26 (some 88) ?_
       refine pn_ 27 (some 89) ?_
       refine pn_ 28 (some 90) ?_
       refine pn_ 29 (some 91) ?_
       refine pn_ 30 (some 92) ?_
       refine pz_ 31 (some 93) ?_
       refine pz_ 32 (some 94) ?_
       refine pn_ 33 (some 95) ?_
       refine pn_ 34 (some 96) ?_
       refine pn_ 35 (some 97) ?_
       refine pz_ 36 (some 98) ?_
       refine done_ (done_of HT_.out (by kernel_rfl)) ?_
       try go_wp2
       go_meet
       case rel => exact ⟨_, (true), z8_, H', ⟨by first | omega | exact Nat.le_refl _⟩, ⟨by (with_reducible repeat (first | apply Kd.R_alloc | apply Kd.R_drewN | apply Kd.R_drew)); exact Kd.R_mono HO502.out (fun _ hk => ⟨hk.2, hk.1.2⟩)⟩, ⟨by (with_reducible repeat (first | apply Kd.R_alloc | apply Kd.R_drewN | apply Kd.R_drew)); exact HO507.out⟩, ⟨by (with_reducible repeat (first | apply Kd.R_alloc | apply Kd.R_drewN | apply Kd.R_drew)); exact Kd.R_mono HO514.out (fun _ hk => ⟨hk.1.2, hk.2⟩)⟩, ⟨by (with_reducible repeat (first | refine blk_drewN ?_ _ | refine blk_drew ?_ | refine blk_alloc ?_ _)); exact BK497.out⟩, ⟨by repeat (first | (with_reducible first | exact HB.out | apply below_alloc | apply pw_below_drewN | apply below_drew1 | refine below_set ?_ GE497.out) | exact HB.out)⟩⟩
     ·rw [if_neg c26] at H
      have c26b0 : (t510 == 0) = false := beq_eq_false_iff_ne.mpr c26
      have c26b1 : (t510 != 0) = true := bne_iff_ne.mpr c26
      have H' := Aside0.mk H
      clear H
      try go_wp2
      have n0_ := Aside0.mk (Kd.R_drew HO502.out)
      have n1_ := Aside0.mk (Kd.R_drew HO507.out)
      have n2_ := Aside0.mk (Kd.R_drew HO514.out)
      have n3_ := Aside0.mk (blk_drew BK497.out)
      have n4_ := Aside0.mk (below_drew1 HB.out)
      clear HO502
      clear HO507
      clear HO514
      clear BK497
      clear HB
      have HO502 := n0_
      have HO507 := n1_
      have HO514 := n2_
      have BK497 := n3_
      have HB := n4_
      clear n0_ n1_ n2_ n3_ n4_
      refine start_ (n := 37) (S := fun w' => True) (ds := []) #[false, false, false, false, false, false, false, false, false, false, false, false, false, false, false, false, false, false, false, false, false, false, false, false, false, false, false, false, false, false, false, false, false, false, false, false, false] (by kernel_rfl) rfl rfl trivial (fun hHeld => ?_); refine with_tabW formelaw10_TreeInserts.tab10 formelaw10_TreeInserts.bits10 (fun HT_ HW_ => ?_)
      generalize w24.drew = w42 at HO502 HO507 HO514 BK497 HB hHeld ⊢
      refine pz_ 0 (some 62) ?_
      refine pz_ 1 (some 63) ?_
      refine pz_ 2 (some 64) ?_
      refine pz_ 3 (some 65) ?_
      refine pz_ 4 (some 66) ?_
      refine pz_ 5 (some 67) ?_
      refine pz_ 6 (some 68) ?_
      refine pn_ 7 (some 69) ?_
      refine pn_ 8 (some 70) ?_
      refine pz_ 9 (some 71) ?_
      refine pz_ 10 (some 72) ?_
      refine pn_ 11 (some 73) ?_
      refine pn_ 12 (some 74) ?_
      refine pz_ 13 (some 75) ?_
      refine pz_ 14 (some 76) ?_
      refine pn_ 15 (some 77) ?_
      refine pn_ 16 (some 78) ?_
      refine pn_ 17 (some 79) ?_
      refine pn_ 18 (some 80) ?_
      refine pz_ 19 (some 81) ?_
      refine pz_ 20 (some 82) ?_
      refine pn_ 21 (some 83) ?_
      refine pn_ 22 (some 84) ?_
      refine pz_ 23 (some 85) ?_
      refine pz_ 24 (some 86) ?_
      refine pn_ 25 (some 87) ?_
      refine pn_ 26 (some 88) ?_
      refine pn_ 27 (some 89) ?_
      refine pn_ 28 (some 90) ?_
      refine pn_ 29 (some 91) ?_
      refine pn_ 30 (some 92) ?_
      refine pz_ 31 (some 93) ?_
      refine pz_ 32 (some 94) ?_
      refine pn_ 33 (some 95) ?_
      refine pn_ 34 (some 96) ?_
      refine pn_ 35 (some 97) ?_
      refine pz_ 36 (some 98) ?_
      refine done_ (done_of HT_.out (by kernel_rfl)) ?_
      try go_wp2
      go_meet
      case rel => exact ⟨_, (true), z8_, H', ⟨by first | omega | exact Nat.le_refl _⟩, ⟨by (with_reducible repeat (first | apply Kd.R_alloc | apply Kd.R_drewN | apply Kd.R_drew)); exact Kd.R_mono HO502.out (fun _ hk => ⟨hk.2, hk.1.2⟩)⟩, ⟨by (with_reducible repeat (first | apply Kd.R_alloc | apply Kd.R_drewN | apply Kd.R_drew)); exact HO507.out⟩, ⟨by (with_reducible repeat (first | apply Kd.R_alloc | apply Kd.R_drewN | apply Kd.R_drew)); exact Kd.R_mono HO514.out (fun _ hk => ⟨hk.1.2, hk.2⟩)⟩, ⟨by (with_reducible repeat (first | refine blk_drewN ?_ _ | refine blk_drew ?_ | refine blk_alloc ?_ _)); exact BK497.out⟩, ⟨by repeat (first | (with_reducible first | exact HB.out | apply below_alloc | apply pw_below_drewN | apply below_drew1 | refine below_set ?_ GE497.out) | exact HB.out)⟩⟩
    ·rw [if_neg c25] at H
     have c25b0 : (t505 == 0) = false := beq_eq_false_iff_ne.mpr c25
     have c25b1 : (t505 != 0) = true := bne_iff_ne.mpr c25
     (first | rw [c25b0] | (simp only [i64_w, i32_w]; rw [c25b0]) | skip)
     have H' := Aside0.mk H
     clear H
     try go_wp2
     have n0_ := Aside0.mk (Kd.R_drew HO502.out)
     have n1_ := Aside0.mk (Kd.R_drew HO507.out)
     have n2_ := Aside0.mk (Kd.R_drew HO514.out)
     have n3_ := Aside0.mk (blk_drew BK497.out)
     have n4_ := Aside0.mk (below_drew1 HB.out)
     clear HO502
     clear HO507
     clear HO514
     clear BK497
     clear HB
     have HO502 := n0_
     have HO507 := n1_
     have HO514 := n2_
     have BK497 := n3_
     have HB := n4_
     clear n0_ n1_ n2_ n3_ n4_
     refine start_ (n := 37) (S := fun w' => True) (ds := []) #[false, false, false, false, false, false, false, false, false, false, false, false, false, false, false, false, false, false, false, false, false, false, false, false, false, false, false, false, false, false, false, false, false, false, false, false, false] (by kernel_rfl) rfl rfl trivial (fun hHeld => ?_); refine with_tabW formelaw10_TreeInserts.tab10 formelaw10_TreeInserts.bits10 (fun HT_ HW_ => ?_)
     generalize w24.drew = w43 at HO502 HO507 HO514 BK497 HB hHeld ⊢
     refine pz_ 0 (some 62) ?_
     refine pz_ 1 (some 63) ?_
     refine pz_ 2 (some 64) ?_
     refine pn_ 3 (some 65) ?_
     refine pn_ 4 (some 66) ?_
     refine pz_ 5 (some 67) ?_
     refine pz_ 6 (some 68) ?_
     refine pn_ 7 (some 69) ?_
     refine pn_ 8 (some 70) ?_
     refine pz_ 9 (some 71) ?_
     refine pz_ 10 (some 72) ?_
     refine pn_ 11 (some 73) ?_
     refine pn_ 12 (some 74) ?_
     refine pz_ 13 (some 75) ?_
     refine pz_ 14 (some 76) ?_
     refine pn_ 15 (some 77) ?_
     refine pn_ 16 (some 78) ?_
     refine pn_ 17 (some 79) ?_
     refine pn_ 18 (some 80) ?_
     refine pz_ 19 (some 81) ?_
     refine pz_ 20 (some 82) ?_
     refine pn_ 21 (some 83) ?_
     refine pn_ 22 (some 84) ?_
     refine pz_ 23 (some 85) ?_
     refine pz_ 24 (some 86) ?_
     refine pn_ 25 (some 87) ?_
     refine pn_ 26 (some 88) ?_
     refine pn_ 27 (some 89) ?_
     refine pn_ 28 (some 90) ?_
     refine pn_ 29 (some 91) ?_
     refine pn_ 30 (some 92) ?_
     refine pz_ 31 (some 93) ?_
     refine pz_ 32 (some 94) ?_
     refine pn_ 33 (some 95) ?_
     refine pn_ 34 (some 96) ?_
     refine pn_ 35 (some 97) ?_
     refine pz_ 36 (some 98) ?_
     refine done_ (done_of HT_.out (by kernel_rfl)) ?_
     try go_wp2
     go_meet
     case rel => exact ⟨_, (true), z8_, H', ⟨by first | omega | exact Nat.le_refl _⟩, ⟨by (with_reducible repeat (first | apply Kd.R_alloc | apply Kd.R_drewN | apply Kd.R_drew)); exact Kd.R_mono HO502.out (fun _ hk => ⟨hk.2, hk.1.2⟩)⟩, ⟨by (with_reducible repeat (first | apply Kd.R_alloc | apply Kd.R_drewN | apply Kd.R_drew)); exact HO507.out⟩, ⟨by (with_reducible repeat (first | apply Kd.R_alloc | apply Kd.R_drewN | apply Kd.R_drew)); exact Kd.R_mono HO514.out (fun _ hk => ⟨hk.1.2, hk.2⟩)⟩, ⟨by (with_reducible repeat (first | refine blk_drewN ?_ _ | refine blk_drew ?_ | refine blk_alloc ?_ _)); exact BK497.out⟩, ⟨by repeat (first | (with_reducible first | exact HB.out | apply below_alloc | apply pw_below_drewN | apply below_drew1 | refine below_set ?_ GE497.out) | exact HB.out)⟩⟩
   case rest =>
    clear HC12
    try clear c2
    try clear p2
    try clear c25
    try clear c25b0
    try clear c25b1
    try clear c26
    try clear c26b0
    try clear c26b1
    obtain ⟨kq, x98_11, rfl, HA, HJ11, HO_8, HO_10, HO_15, BK497, HB⟩ := hcut
    cases kq with
    | zero => exact absurd HA.out (by simp [formelaw10_TreeInserts.j0])
    | succ kj11 =>
     have H := HA.out
     clear HA
     simp only [formelaw10_TreeInserts.j0] at H
     by_cases c44 : x98_11 = true
     ·subst c44
      have H1 : (none) = some r := by rw [if_pos rfl] at H; exact H
      clear H
      have H := H1
      clear H1
      exact absurd H (by simp)
     ·replace c44 := Bool.eq_false_iff.mpr c44
      subst c44
      have H1 : (formelaw10_TreeInserts.l0 kj11 l0 a2 t498 t500 t504 t511 (wrap64 ((t504.length : Int) - 1)) t504 (t504.length : Int) 0 a1_0 a1_1 a1_2 a1_3 a1_4) = some r := by rw [if_neg (show ¬ (false = true) by decide)] at H; exact H
      clear H
      have H := H1
      clear H1
      have H' := Aside0.mk H
      clear H
      obtain ⟨Ao45, co45, eo45⟩ := Kd.R_slice HO_10.out
      subst eo45
      go_wp2
      go_loopg [17, 104] kj11 (fun kq v17 v104 w' => ∃ (x17_2 : Int) (x104_2 : Int), v17 = .int .i64 x17_2 ∧ v104 = .int .i64 x104_2 ∧ Aside0 (formelaw10_TreeInserts.l0 kq l0 a2 t498 t500 t504 t511 x17_2 t504 (t504.length : Int) x104_2 a1_0 a1_1 a1_2 a1_3 a1_4 = some r) ∧ Aside0 (kq ≤ kj11) ∧ Aside0 (Kd.R k24 24 w' w.heap.size (fun k_ => some k_ ≠ (v513 : Value).ownBlock ∧ k_ ≠ gb497) (.slice Ao19 t500.length co19) t500) ∧ Aside0 (Kd.R (Kd.int .i64) 3 w' w.heap.size (fun _ => True) (.slice Ao45 t504.length co45) t504) ∧ Aside0 (Kd.R k24 24 w' w.heap.size (fun k_ => some k_ ≠ ((.slice Ao19 t500.length co19) : Value).ownBlock ∧ k_ ≠ gb497) v513 t511) ∧ Aside0 (Kd.R (Kd.int .i64) 3 w' w.heap.size (fun _ => True) (.slice Ao45 t504.length co45) t504) ∧ Aside0 (w'.heap[gb497]? = some (.cells #[.int .i64 a1_0, .int .i64 a1_1, .int .i64 a1_2, .int .i64 a1_3, .string a1_4] 24 (0, 0))) ∧ Aside0 (Below w.heap.size w w'))
      case atStart => exact ⟨(wrap64 ((t504.length : Int) - 1)), (0), z8_, z8_, H', ⟨Nat.le_refl _⟩, ⟨by (with_reducible repeat (first | apply Kd.R_alloc | apply Kd.R_drewN | apply Kd.R_drew)); exact HO_8.out⟩, ⟨by (with_reducible repeat (first | apply Kd.R_alloc | apply Kd.R_drewN | apply Kd.R_drew)); exact HO_10.out⟩, ⟨by (with_reducible repeat (first | apply Kd.R_alloc | apply Kd.R_drewN | apply Kd.R_drew)); exact HO_15.out⟩, ⟨by (with_reducible repeat (first | apply Kd.R_alloc | apply Kd.R_drewN | apply Kd.R_drew)); exact HO_10.out⟩, ⟨by (with_reducible repeat (first | refine blk_drewN ?_ _ | refine blk_drew ?_ | refine blk_alloc ?_ _)); exact BK497.out⟩, ⟨by repeat (first | (with_reducible first | exact HB.out | apply below_alloc | apply pw_below_drewN | apply below_drew1 | refine below_set ?_ GE497.out) | exact HB.out)⟩⟩
      case round =>
       clear H'
       try clear c2
       try clear p2
       try clear c4
       try clear p6
       try clear c25
       try clear c25b0
       try clear c25b1
       try clear c26
       try clear c26b0
       try clear c26b1
       try clear c44
       try clear p2
       obtain ⟨x17_2, x104_2, rfl, rfl, HA, HK2, HO_8, HO_10, HO_15, HO_102, BK497, HB⟩ := hrel
       cases gk with
       | zero => exact absurd HA.out (by simp [formelaw10_TreeInserts.l0])
       | succ k2 =>
        have H := HA.out
        clear HA
        simp only [formelaw10_TreeInserts.l0] at H
        by_cases c46 : x104_2 < (t504.length : Int)
        ·rw [if_pos c46] at H
         have c46b0 : decide (x104_2 < (t504.length : Int)) = true := decide_eq_true c46
         clear c46
         by_cases c47 : 0 ≤ x104_2
         rotate_left
         ·rw [if_neg c47] at H; exact absurd H (by simp)
         rw [if_pos c47] at H
         have c47b0 : decide (0 ≤ x104_2) = true := decide_eq_true c47
         clear c47
         by_cases c48 : x104_2 < (t504.length : Int)
         rotate_left
         ·rw [if_neg c48] at H; exact absurd H (by simp)
         rw [if_pos c48] at H
         have c48b0 : decide (x104_2 < (t504.length : Int)) = true := decide_eq_true c48
         clear c48
         by_cases c49 : (rd t504 x104_2) = a2
         ·rw [if_pos c49] at H
          have c49b0 : ((rd t504 x104_2) == a2) = true := beq_iff_eq.mpr c49
          have c49b1 : ((rd t504 x104_2) != a2) = false := bne_eq_false_iff_eq.mpr c49
          clear c49
          have H' := Aside0.mk H
          clear H
          have p517 : 0 ≤ (x104_2 : Int) := of_decide_eq_true z3_
          have q517 : x104_2 < (t504.length : Int) := of_decide_eq_true z3_
          obtain ⟨ad517, e517, hx517_0⟩ := Kd.at_int (Kd.R_reads' HO_102.out).2.2 x104_2 p517 q517
          cases e517
          replace p517 := eq_true p517
          replace q517 := eq_true q517
          go_wp2
          go_roundg k2
          case measure => have := HJ11.out; have := HK2.out; omega
          case rel => exact ⟨(wrap64 (x104_2 - 1)), (wrap64 (x104_2 + 1)), z8_, z8_, H', ⟨by have := HJ11.out; have := HK2.out; omega⟩, ⟨by (with_reducible repeat (first | apply Kd.R_alloc | apply Kd.R_drewN | apply Kd.R_drew)); exact HO_8.out⟩, ⟨by (with_reducible repeat (first | apply Kd.R_alloc | apply Kd.R_drewN | apply Kd.R_drew)); exact HO_10.out⟩, ⟨by (with_reducible repeat (first | apply Kd.R_alloc | apply Kd.R_drewN | apply Kd.R_drew)); exact HO_15.out⟩, ⟨by (with_reducible repeat (first | apply Kd.R_alloc | apply Kd.R_drewN | apply Kd.R_drew)); exact HO_102.out⟩, ⟨by (with_reducible repeat (first | refine blk_drewN ?_ _ | refine blk_drew ?_ | refine blk_alloc ?_ _)); exact BK497.out⟩, ⟨by repeat (first | (with_reducible first | exact HB.out | apply below_alloc | apply pw_below_drewN | apply below_drew1 | refine below_set ?_ GE497.out) | exact HB.out)⟩⟩
         ·rw [if_neg c49] at H
          have c49b0 : ((rd t504 x104_2) == a2) = false := beq_eq_false_iff_ne.mpr c49
          have c49b1 : ((rd t504 x104_2) != a2) = true := bne_iff_ne.mpr c49
          have H' := Aside0.mk H
          clear H
          have p517 : 0 ≤ (x104_2 : Int) := of_decide_eq_true z3_
          have q517 : x104_2 < (t504.length : Int) := of_decide_eq_true z3_
          obtain ⟨ad517, e517, hx517_0⟩ := Kd.at_int (Kd.R_reads' HO_102.out).2.2 x104_2 p517 q517
          cases e517
          replace p517 := eq_true p517
          replace q517 := eq_true q517
          go_wp2
          go_roundg k2
          case measure => have := HJ11.out; have := HK2.out; omega
          case rel => exact ⟨(x17_2), (wrap64 (x104_2 + 1)), z8_, z8_, H', ⟨by have := HJ11.out; have := HK2.out; omega⟩, ⟨by (with_reducible repeat (first | apply Kd.R_alloc | apply Kd.R_drewN | apply Kd.R_drew)); exact HO_8.out⟩, ⟨by (with_reducible repeat (first | apply Kd.R_alloc | apply Kd.R_drewN | apply Kd.R_drew)); exact HO_10.out⟩, ⟨by (with_reducible repeat (first | apply Kd.R_alloc | apply Kd.R_drewN | apply Kd.R_drew)); exact HO_15.out⟩, ⟨by (with_reducible repeat (first | apply Kd.R_alloc | apply Kd.R_drewN | apply Kd.R_drew)); exact HO_102.out⟩, ⟨by (with_reducible repeat (first | refine blk_drewN ?_ _ | refine blk_drew ?_ | refine blk_alloc ?_ _)); exact BK497.out⟩, ⟨by repeat (first | (with_reducible first | exact HB.out | apply below_alloc | apply pw_below_drewN | apply below_drew1 | refine below_set ?_ GE497.out) | exact HB.out)⟩⟩
        ·rw [if_neg c46] at H
         have c46b0 : decide (x104_2 < (t504.length : Int)) = false := decide_eq_false c46
         clear c46
         by_cases c50 : t498 = true
         ·subst c50
          have H1 : (if x17_2 ≥ 0 then (if 0 ≤ x17_2 then (if x17_2 < (t504.length : Int) then (if (rd t504 x17_2) = a1_0 then ((formeref10_Same.f k2 t511 l0).bind fun t519 => (if t519 = true then ((formelaw10_alike.f l0 t500 a1_0).bind fun t520 => (some t520)) else (none))) else (none)) else (none)) else (none)) else (none)) = some r := by rw [if_pos rfl] at H; exact H
          clear H
          have H := H1
          clear H1
          by_cases c51 : x17_2 ≥ 0
          ·rw [if_pos c51] at H
           have c51b0 : decide (0 ≤ x17_2) = true := decide_eq_true c51
           clear c51
           by_cases c52 : 0 ≤ x17_2
           rotate_left
           ·rw [if_neg c52] at H; exact absurd H (by simp)
           rw [if_pos c52] at H
           have c52b0 : decide (0 ≤ x17_2) = true := decide_eq_true c52
           clear c52
           by_cases c53 : x17_2 < (t504.length : Int)
           rotate_left
           ·rw [if_neg c53] at H; exact absurd H (by simp)
           rw [if_pos c53] at H
           have c53b0 : decide (x17_2 < (t504.length : Int)) = true := decide_eq_true c53
           clear c53
           by_cases c54 : (rd t504 x17_2) = a1_0
           ·rw [if_pos c54] at H
            have c54b0 : ((rd t504 x17_2) == a1_0) = true := beq_iff_eq.mpr c54
            have c54b1 : ((rd t504 x17_2) != a1_0) = false := bne_eq_false_iff_eq.mpr c54
            clear c54
            replace H := Option.bind_eq_some_iff.mp H
            obtain ⟨t519, A550, H⟩ := H
            try dsimp only at H
            have A55 := Aside0.mk A550
            clear A550
            by_cases c56 : t519 = true
            ·subst c56
             have H1 : ((formelaw10_alike.f l0 t500 a1_0).bind fun t520 => (some t520)) = some r := by rw [if_pos rfl] at H; exact H
             clear H
             have H := H1
             clear H1
             replace H := Option.bind_eq_some_iff.mp H
             obtain ⟨t520, A570, H⟩ := H
             try dsimp only at H
             have A57 := Aside0.mk A570
             clear A570
             obtain rfl := Option.some.inj H
             try go_wp2
             have n0_ := Aside0.mk (Kd.R_drew HO_8.out)
             have n1_ := Aside0.mk (Kd.R_drew HO_10.out)
             have n2_ := Aside0.mk (Kd.R_drew HO_15.out)
             have n3_ := Aside0.mk (Kd.R_drew HO_102.out)
             have n4_ := Aside0.mk (blk_drew BK497.out)
             have n5_ := Aside0.mk (below_drew1 HB.out)
             clear HO_8
             clear HO_10
             clear HO_15
             clear HO_102
             clear BK497
             clear HB
             have HO_8 := n0_
             have HO_10 := n1_
             have HO_15 := n2_
             have HO_102 := n3_
             have BK497 := n4_
             have HB := n5_
             clear n0_ n1_ n2_ n3_ n4_ n5_
             have p518 : 0 ≤ (x17_2 : Int) := of_decide_eq_true z3_
             have q518 : x17_2 < (t504.length : Int) := of_decide_eq_true z3_
             obtain ⟨ad518, e518, hx518_0⟩ := Kd.at_int (Kd.R_reads' HO_10.out).2.2 x17_2 p518 q518
             cases e518
             replace p518 := eq_true p518
             replace q518 := eq_true q518
             obtain ⟨Ao59, co59, eo59⟩ := Kd.R_slice HO_15.out
             (first | subst eo59 | (injection eo59 with f1_ f2_ f3_; have f4_ := f1_.symm; have f5_ := f3_.symm; clear f1_ f2_ f3_; subst f4_; subst f5_))
             refine start_ (n := 27) (S := fun w' => w'.cell? ⟨gb497, 0, none⟩ = some (.int .i64 a1_0) ∧ w'.cell? ⟨gb497, 1, none⟩ = some (.int .i64 a1_1) ∧ w'.cell? ⟨gb497, 2, none⟩ = some (.int .i64 a1_2) ∧ w'.cell? ⟨gb497, 3, none⟩ = some (.int .i64 a1_3) ∧ w'.cell? ⟨gb497, 4, none⟩ = some (.string a1_4) ∧ w'.cell? (ad518.add (x17_2).toNat) = some (.int .i64 (rd t504 x17_2))) (ds := []) #[false, false, false, false, false, false, false, false, false, false, false, false, false, false, false, false, false, false, false, false, false, false, false, false, false, false, false] (by kernel_rfl) rfl rfl ⟨(blk_cell BK497.out 0).trans rfl, (blk_cell BK497.out 1).trans rfl, (blk_cell BK497.out 2).trans rfl, (blk_cell BK497.out 3).trans rfl, (blk_cell BK497.out 4).trans rfl, hx518_0⟩ (fun hHeld => ?_); refine with_tabW formelaw10_TreeInserts.tab19 formelaw10_TreeInserts.bits19 (fun HT_ HW_ => ?_)
             generalize wr.drew = w58 at HO_8 HO_10 HO_15 HO_102 BK497 HB hx518_0 hHeld ⊢
             refine pz_ 0 (some 115) ?_
             refine pz_ 1 (some 116) ?_
             refine pz_ 2 (some 117) ?_
             refine pz_ 3 (some 118) ?_
             refine pz_ 4 (some 119) ?_
             refine pz_ 5 (some 120) ?_
             refine pz_ 6 (some 121) ?_
             refine pz_ 7 (some 122) ?_
             refine pz_ 8 (some 123) ?_
             refine pz_ 10 (some 125) ?_
             refine tz_ 9 (some 124) hHeld ?_
             refine tz_ 11 (some 126) hHeld ?_
             refine pz_ 12 (some 127) ?_
             refine pz_ 13 (some 128) ?_
             refine pz_ 14 (some 129) ?_
             refine pz_ 15 (some 130) ?_
             refine pz_ 16 (some 131) ?_
             refine oz_ 17 (some 132) (fun K hK => ?_)
             refine goes_ Try.func22 (by kernel_rfl) rfl #[.slice Ao59 t511.length co59, .slice A0 l0.length c0] (by rfl) rfl rfl z2_ ?_
             with_reducible refine (formeref10_Same.calls k2 _ _ t511 _ _ l0 true _ ?side1 ?side2 ?side3 ?side4 A55.out).mono ?_
             (case side1 => repeat (first | exact (Kd.R_reads' HO_15.out).2.2 | (with_reducible refine Kd.C_alloc ?_ _) | (with_reducible refine Kd.C_drewN ?_ _) | (with_reducible refine Kd.C_drew ?_)))
             (case side2 => exact (Kd.R_reads' HO_15.out).2.1)
             (case side3 => exact z10_)
             (case side4 => exact HC0.out)
             rintro e w' ⟨rfl, ⟨nd, rfl⟩⟩
             refine ⟨_, rfl, ?_⟩
             refine hK.out _ _ ⟨(blk_cell BK497.out 0).trans rfl, (blk_cell BK497.out 1).trans rfl, (blk_cell BK497.out 2).trans rfl, (blk_cell BK497.out 3).trans rfl, (blk_cell BK497.out 4).trans rfl, hHeld.2.2.2.2.2⟩ (fun hHeld => ?_)
             clear hK K
             refine norm_ (a' := ?_) ?_ ?_
             rotate_left
             ·show Act.put _ (some 132) _ = _
              simp only [Act.put, List.setIfInBounds_toArray, List.set_cons_zero, List.set_cons_succ, i64_w, i32_w]
              rfl
             refine pz_ 18 (some 133) ?_
             refine pz_ 19 (some 134) ?_
             refine pz_ 20 (some 135) ?_
             refine pz_ 21 (some 136) ?_
             refine pz_ 22 (some 137) ?_
             refine tz_ 23 (some 138) hHeld ?_
             refine oz_ 24 (some 139) (fun K hK => ?_)
             refine goes_ Try.func28 (by kernel_rfl) rfl #[.slice A0 l0.length c0, .slice Ao19 t500.length co19, .int .i64 a1_0] (by rfl) rfl rfl z2_ ?_
             with_reducible refine (formelaw10_alike.calls _ _ l0 _ _ t500 a1_0 t520 _ ?side1 ?side2 ?side3 ?side4 A57.out).mono ?_
             (case side1 => repeat (first | exact (Kd.C_below HR0.out z5_) | (with_reducible refine Kd.C_alloc ?_ _) | (with_reducible refine Kd.C_drewN ?_ _) | (with_reducible refine Kd.C_drew ?_)))
             (case side2 => exact HC0.out)
             (case side3 => repeat (first | exact (Kd.R_reads' HO_8.out).2.2 | (with_reducible refine Kd.C_alloc ?_ _) | (with_reducible refine Kd.C_drewN ?_ _) | (with_reducible refine Kd.C_drew ?_)))
             (case side4 => exact (Kd.R_reads' HO_8.out).2.1)
             rintro e w60 ⟨rfl, hb⟩
             have HS5_ := hbc_ hb hHeld.2.2.2.2.2
             refine ⟨_, rfl, ?_⟩
             have n0_ := Aside0.mk (Kd.R_below (by (with_reducible repeat (first | apply Kd.R_alloc | apply Kd.R_drewN | apply Kd.R_drew)); exact HO_8.out) hb)
             have n1_ := Aside0.mk (Kd.R_below (by (with_reducible repeat (first | apply Kd.R_alloc | apply Kd.R_drewN | apply Kd.R_drew)); exact HO_10.out) hb)
             have n2_ := Aside0.mk (Kd.R_below (by (with_reducible repeat (first | apply Kd.R_alloc | apply Kd.R_drewN | apply Kd.R_drew)); exact HO_15.out) hb)
             have n3_ := Aside0.mk (Kd.R_below (by (with_reducible repeat (first | apply Kd.R_alloc | apply Kd.R_drewN | apply Kd.R_drew)); exact HO_102.out) hb)
             have n4_ := Aside0.mk (blk_below (g := gb497) (o := .cells #[.int .i64 a1_0, .int .i64 a1_1, .int .i64 a1_2, .int .i64 a1_3, .string a1_4] 24 (0, 0)) z13_ hb)
             have n5_ := Aside0.mk (below_step z5_ hb)
             clear HO_8
             clear HO_10
             clear HO_15
             clear HO_102
             clear BK497
             clear HB
             have HO_8 := n0_
             have HO_10 := n1_
             have HO_15 := n2_
             have HO_102 := n3_
             have BK497 := n4_
             have HB := n5_
             clear n0_ n1_ n2_ n3_ n4_ n5_
             (try clear hb)
             (try clear hb2)
             (try clear hk)
             (try clear hi)
             refine hK.out _ _ ⟨(blk_cell BK497.out 0).trans rfl, (blk_cell BK497.out 1).trans rfl, (blk_cell BK497.out 2).trans rfl, (blk_cell BK497.out 3).trans rfl, (blk_cell BK497.out 4).trans rfl, HS5_⟩ (fun hHeld => ?_)
             clear hK K
             refine norm_ (a' := ?_) ?_ ?_
             rotate_left
             ·show Act.put _ (some 139) _ = _
              simp only [Act.put, List.setIfInBounds_toArray, List.set_cons_zero, List.set_cons_succ, i64_w, i32_w]
              rfl
             refine pz_ 25 (some 140) ?_
             refine pz_ 26 (some 6) ?_
             refine done_ (done_of HT_.out (by kernel_rfl)) ?_
             try go_wp2
             go_ret
             exact ⟨by first | rfl | (simp [errW_none, errW_some] <;> rfl) | (simp [*, errW_none, errW_some] <;> rfl), by repeat (first | (with_reducible first | exact HB.out | apply below_alloc | apply pw_below_drewN | apply below_drew1 | refine below_set ?_ GE497.out) | exact HB.out)⟩
            ·replace c56 := Bool.eq_false_iff.mpr c56
             subst c56
             have H1 : (none) = some r := by rw [if_neg (show ¬ (false = true) by decide)] at H; exact H
             clear H
             have H := H1
             clear H1
             exact absurd H (by simp)
           ·rw [if_neg c54] at H
            have c54b0 : ((rd t504 x17_2) == a1_0) = false := beq_eq_false_iff_ne.mpr c54
            have c54b1 : ((rd t504 x17_2) != a1_0) = true := bne_iff_ne.mpr c54
            exact absurd H (by simp)
          ·rw [if_neg c51] at H
           have c51b0 : decide (0 ≤ x17_2) = false := decide_eq_false c51
           clear c51
           exact absurd H (by simp)
         ·replace c50 := Bool.eq_false_iff.mpr c50
          subst c50
          have H1 : (none) = some r := by rw [if_neg (show ¬ (false = true) by decide)] at H; exact H
          clear H
          have H := H1
          clear H1
          exact absurd H (by simp)
  ·rw [if_neg c8] at H
   have c8b0 : (t503 == 0) = false := beq_eq_false_iff_ne.mpr c8
   have c8b1 : (t503 != 0) = true := bne_iff_ne.mpr c8
   by_cases c61 : t498 = true
   ·subst c61
    have H1 : (some ((t500.length : Int) == 0)) = some r := by rw [if_pos rfl] at H; exact H
    clear H
    have H := H1
    clear H1
    obtain rfl := Option.some.inj H
    go_enter Try.func6, Try.ntmps6
    go_wp2_with (first | ((with_reducible refine gate_dst (N := 4) rfl ?_); (try (refine gate_guard (by rfl) ?_; dsimp only)); refine box_event ?hg (N := 4) ?hd (cs := #[.int .i64 a1_0, .int .i64 a1_1, .int .i64 a1_2, .int .i64 a1_3, .string a1_4]) (t := 24) ?hr ?_; (case hd => rfl); (case hg => rfl); (case hr => exact z11_); intro gb497 hg w62 hbox hb; have n0_ := Aside0.mk (below_step z1_ hb); have n1_ := Aside0.mk (hbox); have n2_ := Aside0.mk ((by rw [hg]; exact (below_size z1_) : w.heap.size ≤ gb497)); have n3_ := Aside0.mk ((by rw [hg]; exact (below_size z1_) : w.heap.size ≤ gb497)); clear HB; have HB := n0_; have BK497 := n1_; have GW497 := n2_; have GE497 := n3_; clear n0_ n1_ n2_ n3_; clear hb hbox hg) | ((with_reducible refine gate_callee (f := 9) rfl ?_); refine goesL_ (some 20) rfl rfl Try.func9 (by kernel_rfl) rfl #[] rfl z2_ ?_; (with_reducible refine (formelaw10_head.calls k  true _ A4.out).mono ?_); rintro e w63 ⟨rfl, hb⟩; refine ⟨_, rfl, ?_⟩; have n0_ := Aside0.mk (blk_below (g := gb497) (o := .cells #[.int .i64 a1_0, .int .i64 a1_1, .int .i64 a1_2, .int .i64 a1_3, .string a1_4] 24 (0, 0)) z13_ hb); have n1_ := Aside0.mk (below_step z5_ hb); clear BK497; clear HB; have BK497 := n0_; have HB := n1_; clear n0_ n1_; (try clear hb); (try clear hb2); (try clear hk); (try clear hi)) | ((with_reducible refine gate_callee (f := 27) rfl ?_); refine goesL_ (some 22) rfl rfl Try.func27 (by kernel_rfl) rfl #[.slice A0 l0.length c0] rfl z2_ ?_; (with_reducible refine (formelaw10_usable.calls k _ _ l0 true _ ?side1 ?side2 A5.out).mono ?_); (case side1 => exact z10_); (case side2 => exact HC0.out); rintro e w64 ⟨rfl, hb⟩; refine ⟨_, rfl, ?_⟩; have n0_ := Aside0.mk (blk_below (g := gb497) (o := .cells #[.int .i64 a1_0, .int .i64 a1_1, .int .i64 a1_2, .int .i64 a1_3, .string a1_4] 24 (0, 0)) z13_ hb); have n1_ := Aside0.mk (below_step z5_ hb); clear BK497; clear HB; have BK497 := n0_; have HB := n1_; clear n0_ n1_; (try clear hb); (try clear hb2); (try clear hk); (try clear hi); have hcz65_0 : w64.cell? ⟨gb497, 0, none⟩ = some (.int .i64 a1_0) := (blk_cell BK497.out 0).trans rfl; have hcz65_1 : w64.cell? ⟨gb497, 1, none⟩ = some (.int .i64 a1_1) := (blk_cell BK497.out 1).trans rfl; have hcz65_2 : w64.cell? ⟨gb497, 2, none⟩ = some (.int .i64 a1_2) := (blk_cell BK497.out 2).trans rfl; have hcz65_3 : w64.cell? ⟨gb497, 3, none⟩ = some (.int .i64 a1_3) := (blk_cell BK497.out 3).trans rfl; have hcz65_4 : w64.cell? ⟨gb497, 4, none⟩ = some (.string a1_4) := (blk_cell BK497.out 4).trans rfl; have hfz65_0 := blk_frozen BK497.out 0; have hfz65_1 := blk_frozen BK497.out 1; have hfz65_2 := blk_frozen BK497.out 2; have hfz65_3 := blk_frozen BK497.out 3; have hfz65_4 := blk_frozen BK497.out 4) | ((with_reducible refine gate_callee (f := 20) rfl ?_); refine goesL_ (some 29) rfl rfl Try.func20 (by kernel_rfl) rfl #[.slice A0 l0.length c0, .agg #[.int .i64 a1_0, .int .i64 a1_1, .int .i64 a1_2, .int .i64 a1_3, .string a1_4], .int .i64 a2] rfl z2_ ?_; (with_reducible refine (tree_Insert.calls _ _ l0 a1_0 a1_1 a1_2 a1_3 a1_4 a2 t500 t503 _ ?side1 ?side2 A7.out).mono ?_); (case side1 => exact z10_); (case side2 => exact HC0.out); rintro e w66 ⟨v501, rfl, ho0, hb⟩; refine ⟨_, rfl, ?_⟩; have n0_ := Aside0.mk (Kd.R_lower (Kd.R_newB ho0 (g := gb497) (o := .cells #[.int .i64 a1_0, .int .i64 a1_1, .int .i64 a1_2, .int .i64 a1_3, .string a1_4] 24 (0, 0)) z13_) (below_size z5_)); have n1_ := Aside0.mk (blk_below (g := gb497) (o := .cells #[.int .i64 a1_0, .int .i64 a1_1, .int .i64 a1_2, .int .i64 a1_3, .string a1_4] 24 (0, 0)) z13_ hb); have n2_ := Aside0.mk (below_step z5_ hb); clear BK497; clear HB; have HO502 := n0_; have BK497 := n1_; have HB := n2_; clear n0_ n1_ n2_; (try clear hb); (try clear hb2); (try clear hk); (try clear hi); (try clear ho0); obtain ⟨Ao67, co67, eo67⟩ := Kd.R_slice HO502.out; subst eo67))
    go_ret
    exact ⟨by first | rfl | (simp [errW_none, errW_some] <;> rfl) | (simp [*, errW_none, errW_some] <;> rfl), by repeat (first | (with_reducible first | exact HB.out | apply below_alloc | apply pw_below_drewN | apply below_drew1 | refine below_set ?_ GE497.out) | exact HB.out)⟩
   ·replace c61 := Bool.eq_false_iff.mpr c61
    subst c61
    have H1 : (none) = some r := by rw [if_neg (show ¬ (false = true) by decide)] at H; exact H
    clear H
    have H := H1
    clear H1
    exact absurd H (by simp)
 ·replace c6 := Bool.eq_false_iff.mpr c6
  subst c6
  have H1 : (some t498) = some r := by rw [if_neg (show ¬ (false = true) by decide)] at H; exact H
  clear H
  have H := H1
  clear H1
  obtain rfl := Option.some.inj H
  go_enter Try.func6, Try.ntmps6
  go_wp2_with (first | ((with_reducible refine gate_dst (N := 4) rfl ?_); (try (refine gate_guard (by rfl) ?_; dsimp only)); refine box_event ?hg (N := 4) ?hd (cs := #[.int .i64 a1_0, .int .i64 a1_1, .int .i64 a1_2, .int .i64 a1_3, .string a1_4]) (t := 24) ?hr ?_; (case hd => rfl); (case hg => rfl); (case hr => exact z11_); intro gb497 hg w68 hbox hb; have n0_ := Aside0.mk (below_step z1_ hb); have n1_ := Aside0.mk (hbox); have n2_ := Aside0.mk ((by rw [hg]; exact (below_size z1_) : w.heap.size ≤ gb497)); have n3_ := Aside0.mk ((by rw [hg]; exact (below_size z1_) : w.heap.size ≤ gb497)); clear HB; have HB := n0_; have BK497 := n1_; have GW497 := n2_; have GE497 := n3_; clear n0_ n1_ n2_ n3_; clear hb hbox hg) | ((with_reducible refine gate_callee (f := 9) rfl ?_); refine goesL_ (some 20) rfl rfl Try.func9 (by kernel_rfl) rfl #[] rfl z2_ ?_; (with_reducible refine (formelaw10_head.calls k  t498 _ A4.out).mono ?_); rintro e w69 ⟨rfl, hb⟩; refine ⟨_, rfl, ?_⟩; have n0_ := Aside0.mk (blk_below (g := gb497) (o := .cells #[.int .i64 a1_0, .int .i64 a1_1, .int .i64 a1_2, .int .i64 a1_3, .string a1_4] 24 (0, 0)) z13_ hb); have n1_ := Aside0.mk (below_step z5_ hb); clear BK497; clear HB; have BK497 := n0_; have HB := n1_; clear n0_ n1_; (try clear hb); (try clear hb2); (try clear hk); (try clear hi)) | ((with_reducible refine gate_callee (f := 27) rfl ?_); refine goesL_ (some 22) rfl rfl Try.func27 (by kernel_rfl) rfl #[.slice A0 l0.length c0] rfl z2_ ?_; (with_reducible refine (formelaw10_usable.calls k _ _ l0 false _ ?side1 ?side2 A5.out).mono ?_); (case side1 => exact z10_); (case side2 => exact HC0.out); rintro e w70 ⟨rfl, hb⟩; refine ⟨_, rfl, ?_⟩; have n0_ := Aside0.mk (blk_below (g := gb497) (o := .cells #[.int .i64 a1_0, .int .i64 a1_1, .int .i64 a1_2, .int .i64 a1_3, .string a1_4] 24 (0, 0)) z13_ hb); have n1_ := Aside0.mk (below_step z5_ hb); clear BK497; clear HB; have BK497 := n0_; have HB := n1_; clear n0_ n1_; (try clear hb); (try clear hb2); (try clear hk); (try clear hi)))
  go_ret
  exact ⟨by first | rfl | (simp [errW_none, errW_some] <;> rfl) | (simp [*, errW_none, errW_some] <;> rfl), by repeat (first | (with_reducible first | exact HB.out | apply below_alloc | apply pw_below_drewN | apply below_drew1 | refine below_set ?_ GE497.out) | exact HB.out)⟩
end Go.Proofs.Ytpafhhgoldenoaa.P
end
section
namespace Go.Proofs.Ytpafhhgoldenoaa.P
open Go.RowKit Go.Proofs.YtpafhhgoldenoaaW.PrintWords Go.Proofs.YtpafhhgoldenoaaW.PrintLast Go.Proofs.YtpafhhgoldenoaaW.PrintMore
open Go.Proofs.Ytpafhhgoldenoaa.XM
set_option linter.unusedVariables false
set_option linter.unusedSimpArgs false
variable {l : List S24} {ds : Nat → Int} {D : Places}
theorem insert_out {l : List S24} {n : S24} {b e : Int} {out : List S24} (h : insertP l n b = some (out, e)) :
  (e ≠ 0 ∧ out = []) ∨ (e = 0 ∧ ∃ D p, placesP l = some D ∧ formedB n = true ∧ n.f1 ≠ 0 ∧ (mlook D n.f0).isSome = false ∧ mlook D n.f1 = some p ∧ ¬(b ≠ 0 ∧ b ∉ kidsL l n.f1) ∧ standsB n.f2 (rd_T24 l p.1).f2 = true ∧ l.length ≠ 4000 ∧ p.2 ≠ 30 ∧ putP l [n] b = some out) := by
 unfold insertP at h
 split at h
 ·simp only [Option.some.injEq, Prod.mk.injEq] at h; obtain ⟨rfl, rfl⟩ := h; exact .inl ⟨by decide, rfl⟩
 rename_i D hD
 split at h
 ·simp only [Option.some.injEq, Prod.mk.injEq] at h; obtain ⟨rfl, rfl⟩ := h; exact .inl ⟨by decide, rfl⟩
 split at h
 ·simp only [Option.some.injEq, Prod.mk.injEq] at h; obtain ⟨rfl, rfl⟩ := h; exact .inl ⟨by decide, rfl⟩
 rename_i h2
 split at h
 ·simp only [Option.some.injEq, Prod.mk.injEq] at h; obtain ⟨rfl, rfl⟩ := h; exact .inl ⟨by decide, rfl⟩
 rename_i h3
 split at h
 ·simp only [Option.some.injEq, Prod.mk.injEq] at h; obtain ⟨rfl, rfl⟩ := h; exact .inl ⟨by decide, rfl⟩
 rename_i h4
 split at h
 ·simp only [Option.some.injEq, Prod.mk.injEq] at h; obtain ⟨rfl, rfl⟩ := h; exact .inl ⟨by decide, rfl⟩
 rename_i p hp
 split at h
 ·simp only [Option.some.injEq, Prod.mk.injEq] at h; obtain ⟨rfl, rfl⟩ := h; exact .inl ⟨by decide, rfl⟩
 rename_i h5
 split at h
 ·simp only [Option.some.injEq, Prod.mk.injEq] at h; obtain ⟨rfl, rfl⟩ := h; exact .inl ⟨by decide, rfl⟩
 rename_i h6
 split at h
 ·simp only [Option.some.injEq, Prod.mk.injEq] at h; obtain ⟨rfl, rfl⟩ := h; exact .inl ⟨by decide, rfl⟩
 rename_i h7
 obtain ⟨o2, ho, h⟩ := Option.map_eq_some_iff.1 h
 simp only [Prod.mk.injEq] at h
 obtain ⟨rfl, rfl⟩ := h
 exact .inr ⟨rfl, D, p, hD, by simpa using h2, h3, by simpa using h4, hp, h5, by simpa using h6, fun c => h7 (.inl c), fun c => h7 (.inr c), ho⟩
structure Inserted (l : List S24) (ds : Nat → Int) (n : S24) (b : Int) (out : List S24) (k q : Nat) : Prop where
 fm : formedB n = true
 new : ∀ j, j < l.length → (nd l j).f0 ≠ n.f0
 hk : k < l.length
 epar : (nd l k).f0 = n.f1
 st : standsB n.f2 (nd l k).f2 = true
 len : l.length < 4000
 d30 : ds k ≠ 30
 hq : q ≤ l.length
 kq : k < q
 form : out = l.take q ++ [n] ++ l.drop q
 place : (b = 0 ∧ q = l.length) ∨ (b ≠ 0 ∧ q < l.length ∧ (nd l q).f0 = b ∧ (nd l q).f1 = n.f1)
theorem inserted_of (T : TreeAt l ds) (P : PAt l ds l.length D) (hD : placesP l = some D) {n : S24} {b : Int} {out : List S24} (h : insertP l n b = some (out, 0)) : ∃ k q, Inserted l ds n b out k q := by
 rcases insert_out h with ⟨c, _⟩ | ⟨_, D', p, hD', h1, h2, h3, h4, h5, h6, h7, h8, ho⟩
 ·exact absurd rfl c
 rw [hD] at hD'
 obtain rfl := Option.some.inj hD'
 have hl := T.len
 rcases P.find n.f0 with ⟨j, hj, e, hm⟩ | ⟨hnew, _⟩
 ·rw [hm] at h3; cases h3
 rcases P.find n.f1 with ⟨k, hk, e2, hm2⟩ | ⟨_, hm2⟩
 case inr => rw [hm2] at h4; cases h4
 rw [hm2] at h4
 obtain rfl := Option.some.inj h4
 obtain ⟨q, hq, hf, hp⟩ := putP_form ho
 have hplace : (b = 0 ∧ q = l.length) ∨ (b ≠ 0 ∧ q < l.length ∧ (nd l q).f0 = b ∧ (nd l q).f1 = n.f1) := by
  rcases hp with hp | ⟨a, c, d⟩
  ·exact .inl hp
  ·refine .inr ⟨a, c, d, ?_⟩
   have hb : b ∈ kidsL l n.f1 := by
    by_cases hb : b ∈ kidsL l n.f1
    ·exact hb
    ·exact absurd ⟨a, hb⟩ h5
   obtain ⟨j, hj, ej, eb⟩ := kid_mem.1 hb
   obtain rfl := T.inj hj c (by rw [eb, d])
   exact ej
 refine ⟨k, q, h1, hnew, hk, e2, h6, by omega, h8, hq, ?_, hf, hplace⟩
 rcases hplace with ⟨_, c⟩ | ⟨_, c, _, d⟩
 ·omega
 ·have hq0 : 0 < q := by
   rcases Nat.eq_zero_or_pos q with z | z
   ·subst z; rw [T.root.1] at d; exact absurd d.symm h2
   ·exact z
  obtain ⟨m, hm, em, _, _⟩ := T.par q c hq0
  obtain rfl := T.inj (j := m) (k := k) (by omega) hk (by rw [em, d, e2])
  exact hm
section
variable {n : S24} {b : Int} {out : List S24} {k q : Nat}
theorem Inserted.olen (M : Inserted l ds n b out k q) : out.length = l.length + 1 := by
 have := M.hq
 rw [M.form]
 simp only [List.length_append, List.length_take, List.length_drop, List.length_cons, List.length_nil]
 omega
theorem nd_get {a : List S24} {j : Nat} {x : S24} (h : a[j]? = some x) : nd a j = x := by
 simp [rd_T24, List.getD_eq_getElem?_getD, h]
theorem get_nd {a : List S24} {j : Nat} (h : j < a.length) : a[j]? = some (nd a j) := by
 rw [List.getElem?_eq_getElem h]; simp [rd_T24, h]
theorem Inserted.nd_lt (M : Inserted l ds n b out k q) {j : Nat} (h : j < q) : nd out j = nd l j := by
 have := M.hq
 refine nd_get ?_
 rw [M.form, List.append_assoc, List.getElem?_append_left (by simp; omega), List.getElem?_take_of_lt h]
 exact get_nd (by omega)
theorem Inserted.nd_eq (M : Inserted l ds n b out k q) : nd out q = n := by
 have := M.hq
 refine nd_get ?_
 rw [M.form, List.append_assoc, List.getElem?_append_right (by simp; omega)]
 simp [show q - min q l.length = 0 by omega]
theorem Inserted.nd_gt (M : Inserted l ds n b out k q) {j : Nat} (h : q < j) (hj : j < out.length) : nd out j = nd l (j - 1) := by
 have := M.hq
 have hlen := M.olen
 refine nd_get ?_
 rw [M.form, List.getElem?_append_right (by simp; omega)]
 simp only [List.length_append, List.length_take, List.length_cons, List.length_nil, List.getElem?_drop]
 rw [show q + (j - (min q l.length + (0 + 1))) = j - 1 by omega]
 exact get_nd (by omega)
theorem Inserted.old (M : Inserted l ds n b out k q) {j : Nat} (hj : j < out.length) (hne : j ≠ q) : ∃ m, m < l.length ∧ nd out j = nd l m ∧ ((j < q ∧ m = j) ∨ (q < j ∧ m + 1 = j)) := by
 have := M.hq
 have hlen := M.olen
 by_cases h : j < q
 ·exact ⟨j, by omega, M.nd_lt h, .inl ⟨h, rfl⟩⟩
 ·exact ⟨j - 1, by omega, M.nd_gt (by omega) hj, .inr ⟨by omega, by omega⟩⟩
theorem Inserted.tree (M : Inserted l ds n b out k q) (T : TreeAt l ds) : ∃ ds', TreeAt out ds' := by
 have hq := M.hq
 have hkq := M.kq
 have hlen := M.olen
 have hl := M.len
 have hid := (idB_iff _).1 ((formedB_iff _).1 M.fm).2.1
 obtain ⟨ds', d1, d2, d3⟩ : ∃ ds' : Nat → Int, (∀ j, j < q → ds' j = ds j) ∧ ds' q = ds k + 1 ∧ (∀ j, q < j → ds' j = ds (j - 1)) := ⟨fun j => if j < q then ds j else if j = q then ds k + 1 else ds (j - 1), fun j h => by simp [h], by simp, fun j h => by simp [show ¬ j < q by omega, show ¬ j = q by omega]⟩
 refine ⟨ds', ⟨by omega, by omega, ?_, ?_, ?_, ?_, ?_, ?_⟩⟩
 ·intro j hj
  by_cases c : j = q
  ·subst c; rw [M.nd_eq]; exact M.fm
  ·obtain ⟨m, hm, e, _⟩ := M.old hj c
   rw [e]; exact T.form m hm
 ·intro j v hjv hv
  by_cases c : j = q
  ·subst c
   obtain ⟨m, hm, e, _⟩ := M.old hv (by omega)
   rw [M.nd_eq, e]
   exact fun z => M.new m hm z.symm
  ·obtain ⟨m, hm, e, ho⟩ := M.old (by omega : j < out.length) c
   by_cases c2 : v = q
   ·subst c2
    rw [e, M.nd_eq]
    exact M.new m hm
   ·obtain ⟨m2, hm2, e2, ho2⟩ := M.old hv c2
    rw [e, e2]
    exact T.ids m m2 (by omega) hm2
 ·rw [M.nd_lt (by omega)]; exact T.root
 ·rw [d1 0 (by omega)]; exact T.d0
 ·intro j hj hj0
  by_cases c : j = q
  ·subst c
   exact ⟨k, hkq, by rw [M.nd_lt hkq, M.nd_eq]; exact M.epar, by rw [M.nd_lt hkq, M.nd_eq]; exact M.st, by rw [d2, d1 k hkq]⟩
  ·obtain ⟨m, hm, e, ho⟩ := M.old hj c
   obtain ⟨u, hu, e1, e2, e3⟩ := T.par m hm (by omega)
   have hdj : ds' j = ds m := by
    rcases ho with ⟨h, rfl⟩ | ⟨h, h2⟩
    ·exact d1 m h
    ·rw [d3 j h, show j - 1 = m by omega]
   by_cases cu : u < q
   ·exact ⟨u, by omega, by rw [M.nd_lt cu, e]; exact e1, by rw [M.nd_lt cu, e]; exact e2, by rw [hdj, d1 u cu]; exact e3⟩
   ·have e5 : nd out (u + 1) = nd l u := by have := M.nd_gt (j := u + 1) (by omega) (by omega); simpa using this
    exact ⟨u + 1, by omega, by rw [e5, e]; exact e1, by rw [e5, e]; exact e2, by rw [hdj, d3 (u + 1) (by omega)]; simpa using e3⟩
 ·intro j hj
  by_cases c : j = q
  ·subst c
   rw [d2]
   have := T.le30 k M.hk
   have := M.d30
   omega
  ·obtain ⟨m, hm, e, ho⟩ := M.old hj c
   rcases ho with ⟨h, rfl⟩ | ⟨h, h2⟩
   ·rw [d1 m h]; exact T.le30 m hm
   ·rw [d3 j h, show j - 1 = m by omega]; exact T.le30 m hm
theorem Inserted.in_new (M : Inserted l ds n b out k q) (T : TreeAt l ds) {ds' : Nat → Int} (T' : TreeAt out ds') : ∀ j, j < out.length → inB out n.f0 j = decide (j = q) := by
 have hkq := M.kq
 have hq := M.hq
 have hlen := M.olen
 have hid := (idB_iff _).1 ((formedB_iff _).1 M.fm).2.1
 intro j
 induction j using Nat.strongRecOn with
 | ind j ih =>
  intro hj
  have hown : decide (n.f0 = (nd out j).f0) = decide (j = q) := by
   rw [Bool.eq_iff_iff, decide_eq_true_eq, decide_eq_true_eq]
   constructor
   ·intro c
    exact T'.inj hj (by omega) (by rw [M.nd_eq]; exact c.symm)
   ·intro c; subst c; rw [M.nd_eq]
  by_cases h0 : j = 0
  ·subst h0
   rw [in_root T', hown]
  ·obtain ⟨m, hm, e, _, _⟩ := T'.par j hj (by omega)
   rw [in_step T' hj hm e, ih m hm (by omega), hown]
   by_cases c : m = q
   ·subst c
    exfalso
    rw [M.nd_eq] at e
    obtain ⟨u, hu, e2, _⟩ := M.old hj (by omega)
    rw [e2] at e
    by_cases hu0 : u = 0
    ·subst hu0; rw [T.root.1] at e; omega
    ·obtain ⟨v, hv, e3, _, _⟩ := T.par u hu (by omega)
     exact M.new v (by omega) (by rw [e3, ← e])
   ·rw [Bool.eq_iff_iff]
    simp [c]
theorem Inserted.back (M : Inserted l ds n b out k q) (T : TreeAt l ds) {ds' : Nat → Int} (T' : TreeAt out ds') : selP out (fun j => !inB out n.f0 j) out.length = l := by
 have hq := M.hq
 have hlen := M.olen
 have go : ∀ m, m ≤ out.length → selP out (fun j => !inB out n.f0 j) m = if m ≤ q then l.take m else l.take (m - 1) := by
  intro m
  induction m with
  | zero => intro _; simp [selP]
  | succ m ih =>
   intro hm
   rw [selP_succ, ih (by omega), M.in_new T T' m (by omega)]
   by_cases c : m = q
   ·subst c
    simp only [decide_true, Bool.not_true, Bool.false_eq_true, if_false]
    rw [if_pos (Nat.le_refl _), if_neg (by omega)]
    simp
   ·rw [if_pos (by simp [c])]
    by_cases c2 : m < q
    ·rw [if_pos (by omega), if_pos (by omega), M.nd_lt c2, List.take_succ_eq_append_getElem (by omega)]
     simp [rd_T24, show m < l.length by omega]
    ·rw [if_neg (by omega), if_neg (by omega), M.nd_gt (by omega) (by omega), show m + 1 - 1 = (m - 1) + 1 by omega, List.take_succ_eq_append_getElem (by omega)]
     simp [rd_T24, show m - 1 < l.length by omega]
 have := go out.length (Nat.le_refl _)
 rw [if_neg (by omega), show out.length - 1 = l.length by omega, List.take_length] at this
 exact this
theorem Inserted.kids (M : Inserted l ds n b out k q) : (b = 0 ∧ ∃ A, kidsL out n.f1 = A ++ [n.f0]) ∨ (b ≠ 0 ∧ ∃ A B, kidsL out n.f1 = A ++ n.f0 :: b :: B) := by
 have e1 : kidsL [n] n.f1 = [n.f0] := by simp [kidsL]
 have e0 : kidsL out n.f1 = kidsL (l.take q) n.f1 ++ [n.f0] ++ kidsL (l.drop q) n.f1 := by rw [M.form, kidsL_append, kidsL_append, e1]
 rcases M.place with ⟨hb, hq⟩ | ⟨hb, hq, hf, hp⟩
 ·exact .inl ⟨hb, kidsL (l.take q) n.f1, by rw [e0, hq, List.drop_length]; simp [kidsL]⟩
 ·refine .inr ⟨hb, kidsL (l.take q) n.f1, kidsL (l.drop (q + 1)) n.f1, ?_⟩
  rw [e0, drop_nd _ q hq]
  have : kidsL (nd l q :: l.drop (q + 1)) n.f1 = b :: kidsL (l.drop (q + 1)) n.f1 := by
   generalize l.drop (q + 1) = U
   rw [← hf]
   simp [kidsL, hp]
  rw [this]
  simp
theorem Inserted.alike (M : Inserted l ds n b out k q) (x : Int) : kidsX l n.f0 x = kidsX out n.f0 x := by
 have e1 : kidsX [n] n.f0 x = [] := by simp [kidsX]
 rw [M.form, kidsX_append, kidsX_append, e1, List.append_nil, ← kidsX_append, List.take_append_drop]
end
theorem ins_end (l out : List S24) (kd : List Int) (n : S24) (b : Int) (hl : l.length ≤ 4000) (pl : Nat) (hpl : pl < kd.length) (hid : rd kd (pl : Int) = n.f0) (ha : formelaw10_alike.f l out n.f0 = some true) :
  Ev (fun k => formelaw10_TreeInserts.l0 k l b true out kd l (pl : Int) kd (kd.length : Int) (kd.length : Int) n.f0 n.f1 n.f2 n.f3 n.f4) true := by
 refine Ev.up ?_
 simp only [formelaw10_TreeInserts.l0]
 refine Ev.els (by omega) (Ev.thn trivial (Ev.thn (by omega) (Ev.thn (by omega) (Ev.thn (by omega) (Ev.thn hid (Ev.bind (refSame l (by omega)) (Ev.thn rfl ?_)))))))
 exact Ev.obind ha (Ev.now _)
theorem ins_skip (l out : List S24) (kd : List Int) (n : S24) (b : Int) (hk : kd.length ≤ 4000) (pl : Int) (q2 : Nat) (hq2 : q2 ≤ kd.length)
  (h : Ev (fun k => formelaw10_TreeInserts.l0 k l b true out kd l pl kd (kd.length : Int) (q2 : Int) n.f0 n.f1 n.f2 n.f3 n.f4) true) : ∀ (d q : Nat), q ≤ q2 → q2 - q ≤ d → (∀ r, q ≤ r → r < q2 → rd kd (r : Int) ≠ b) →
  Ev (fun k => formelaw10_TreeInserts.l0 k l b true out kd l pl kd (kd.length : Int) (q : Int) n.f0 n.f1 n.f2 n.f3 n.f4) true := by
 intro d
 induction d with
 | zero =>
  intro q h1 h2 _
  obtain rfl : q = q2 := by omega
  exact h
 | succ d ih =>
  intro q h1 h2 hn
  by_cases e : q = q2
  ·subst e; exact h
  ·refine Ev.up ?_
   simp only [formelaw10_TreeInserts.l0]
   refine Ev.thn (by omega) (Ev.thn (by omega) (Ev.thn (by omega) (Ev.els (hn q (Nat.le_refl _) (by omega)) ?_)))
   rw [w64n q (by omega)]
   exact ih (q + 1) (by omega) (by omega) (fun r hr hr2 => hn r (by omega) hr2)
theorem ins_hit (l out : List S24) (kd : List Int) (n : S24) (b : Int) (hk : kd.length ≤ 4000) (pl : Int) (q : Nat) (hq : q < kd.length) (hq0 : 0 < q) (hb : rd kd (q : Int) = b)
  (h : Ev (fun k => formelaw10_TreeInserts.l0 k l b true out kd l ((q - 1 : Nat) : Int) kd (kd.length : Int) ((q + 1 : Nat) : Int) n.f0 n.f1 n.f2 n.f3 n.f4) true) :
  Ev (fun k => formelaw10_TreeInserts.l0 k l b true out kd l pl kd (kd.length : Int) (q : Int) n.f0 n.f1 n.f2 n.f3 n.f4) true := by
 refine Ev.up ?_
 simp only [formelaw10_TreeInserts.l0]
 refine Ev.thn (by omega) (Ev.thn (by omega) (Ev.thn (by omega) (Ev.thn hb ?_)))
 rw [w64n q (by omega), show wrap64 ((q : Int) - 1) = ((q - 1 : Nat) : Int) by unfold wrap64; omega]
 exact h
theorem rd_ati {ks : List Int} {q : Nat} (h : q < ks.length) : rd ks (q : Int) = ks[q] := by simp [rd, h]
theorem ins_place (l out : List S24) (kd : List Int) (n : S24) (b : Int) (hl : l.length ≤ 4000) (hk : kd.length ≤ 4000) (hnd : kd.Nodup) (ha : formelaw10_alike.f l out n.f0 = some true)
  (hf : (b ∉ kd ∧ ∃ A, kd = A ++ [n.f0]) ∨ ∃ A B, kd = A ++ n.f0 :: b :: B) :
  Ev (fun k => formelaw10_TreeInserts.l0 k l b true out kd l (wrap64 ((kd.length : Int) - 1)) kd (kd.length : Int) 0 n.f0 n.f1 n.f2 n.f3 n.f4) true := by
 rcases hf with ⟨hb, A, rfl⟩ | ⟨A, B, rfl⟩
 ·have e : wrap64 (((A ++ [n.f0]).length : Int) - 1) = (A.length : Int) := by simp at hk ⊢; unfold wrap64; omega
  rw [e]
  have hlen : A.length < (A ++ [n.f0]).length := by simp
  refine ins_skip l out _ n b hk _ _ (Nat.le_refl _) (ins_end l out _ n b hl A.length hlen ?_ ha) _ 0 (Nat.zero_le _) (Nat.le_refl _) (fun r _ hr c => hb (by rw [← c, rd_ati hr]; exact List.getElem_mem hr))
  rw [rd_ati hlen]; simp
 ·have hlen : A.length + 1 < (A ++ n.f0 :: b :: B).length := by simp
  have hlen0 : A.length < (A ++ n.f0 :: b :: B).length := by omega
  have e1 : rd (A ++ n.f0 :: b :: B) ((A.length + 1 : Nat) : Int) = b := by rw [rd_ati hlen]; simp [List.getElem_append_right]
  have e0 : rd (A ++ n.f0 :: b :: B) ((A.length : Nat) : Int) = n.f0 := by rw [rd_ati hlen0]; simp
  have other : ∀ r, r < (A ++ n.f0 :: b :: B).length → r ≠ A.length + 1 → rd (A ++ n.f0 :: b :: B) (r : Int) ≠ b := by
   intro r hr hne c
   rw [rd_ati hr] at c
   rw [rd_ati hlen] at e1
   exact hne (nodup_idx hnd hr hlen (c.trans e1.symm))
  refine ins_skip l out _ n b hk _ (A.length + 1) (by omega) ?_ _ 0 (Nat.zero_le _) (Nat.le_refl _) (fun r _ hr => other r (by omega) (by omega))
  refine ins_hit l out _ n b hk _ (A.length + 1) hlen (by omega) e1 ?_
  refine ins_skip l out _ n b hk _ _ (Nat.le_refl _) ?_ _ (A.length + 1 + 1) (by omega) (Nat.le_refl _) (fun r h1 h2 => other r h2 (by omega))
  exact ins_end l out _ n b hl A.length hlen0 e0 ha
theorem inserts_pure (l : List S24) (n : S24) (b : Int) (hs : ∀ j, j < l.length → (nd l j).f4.size ≤ 9223372036854775807) (hn : n.f4.size ≤ 9223372036854775807) (_ : -9223372036854775808 ≤ b ∧ b ≤ 9223372036854775807) :
  ∃ k, formelaw10_TreeInserts.f k l n.f0 n.f1 n.f2 n.f3 n.f4 b = some true := by
 refine Ev.rounds (g := fun k => formelaw10_TreeInserts.f k l n.f0 n.f1 n.f2 n.f3 n.f4 b) ?_
 unfold formelaw10_TreeInserts.f
 refine Ev.bind head_true ?_
 rcases usable_cases l hs with h | ⟨h, hl, D, ds, hD, T, P⟩
 ·exact Ev.bind h (Ev.els (by simp) (Ev.now _))
 refine Ev.bind h (Ev.thn rfl ?_)
 obtain ⟨⟨out, e⟩, m1, _, _⟩ := refInsert l hs n hn b
 refine Ev.obind (show tree_Insert.f l n.f0 n.f1 n.f2 n.f3 n.f4 b = some (out, e) from m1) ?_
 rcases insert_out m1 with ⟨he, ho⟩ | ⟨he, _⟩
 ·subst ho
  exact Ev.els he (Ev.thn rfl (Ev.const rfl))
 subst he
 obtain ⟨k, q, M⟩ := inserted_of T P hD m1
 obtain ⟨ds', T'0⟩ := M.tree T
 obtain ⟨D', hD'⟩ := T'0.places
 obtain ⟨ds', T', P'⟩ := placesP_tree hD'
 have hlen := M.olen
 have hq := M.hq
 have hkq := M.kq
 have hfindq : findP out n.f0 = ((q : Int), true, 0) := by
  have := find_at' hD' T' P' (j := q) (by omega)
  rw [M.nd_eq] at this
  exact this
 have hfindk : findP out n.f1 = ((k : Int), true, 0) := by
  have := find_at' hD' T' P' (j := k) (by omega)
  rw [M.nd_lt hkq, M.epar] at this
  exact this
 have hrem : tree_Remove.f out n.f0 = some (l, 0) := by
  have := Remove_at hD' T' P' (j := q) (by omega)
  rw [if_neg (by omega), M.nd_eq, M.back T T'] at this
  exact this
 have hkr : kidsR out n.f1 = (kidsL out n.f1, 0) := by unfold kidsR; rw [hfindk]; simp
 have hke := Kids_ev out n.f1
 rw [hkr] at hke
 have hkl := kidsL_len out n.f1
 have hru : rd_T24 out (q : Int) = n := M.nd_eq
 refine Ev.thn rfl (Ev.bind hke (Ev.obind (show tree_Find.f out n.f0 = some ((q : Int), true, 0) by unfold tree_Find.f; rw [hfindq]) (Ev.obind hrem ?_)))
 refine Ev.thn rfl (Ev.thn rfl (Ev.thn rfl (Ev.thn rfl (Ev.els (by simp; omega) (Ev.els (by simp; omega) (Ev.thn (by simp) (Ev.thn (by simp; omega) (Ev.els ?_ ?_))))))))
 ·simp only [hru]; simp
 refine Ev.obind (show tree_Valid.f out = some true by unfold tree_Valid.f; rw [hD']; rfl) ?_
 refine Ev.up ?_
 simp only [formelaw10_TreeInserts.j0]
 refine Ev.els (by simp) ?_
 have ha := alike_of l out n.f0 (by omega) (by omega) M.alike
 refine ins_place l out (kidsL out n.f1) n b (by omega) (by omega) (kidsL_nodup T' n.f1) ha ?_
 rcases M.kids with ⟨hb, A, h1⟩ | ⟨_, A, B, h1⟩
 ·refine .inl ⟨?_, A, h1⟩
  intro c
  obtain ⟨j, hj, _, ej⟩ := kid_mem.1 c
  have := T'.id hj
  omega
 ·exact .inr ⟨A, B, h1⟩
end Go.Proofs.Ytpafhhgoldenoaa.P
end
section
namespace Go.Proofs.Ytpafhhgoldenoaa.treeInserts
open Go.ChangeShapes Go.WideShapes Go.ChangeAt Go.RowKit
open Go.ChangeMaps (open_string shut_string)
open Go.Proofs.Ytpafhhgoldenoaa.P
set_option linter.unusedVariables false
set_option maxRecDepth 100000 in
theorem lifted (os : Os) (started : os.Started) (H : Type) (enc : TypeId × Value → H) :
  ReturnsInHanded {} Try.checked os 6 .any (Rows.treeInsertsSpec.pre6 enc Try.prog Try.f6 Rows.treeInsertsRow.domain false) (Rows.treeInsertsSpec.post enc Try.prog Try.f6 false true false false) := by
 refine returnsInHanded_of_change_sized (C := Try.checked) own started (by kernel_rfl) Try.func6
  (ChangeSpec.witness6 (enc := enc) (C := Try.checked) false ⟨#[], #[.slice none 0 0, .agg #[.int .i64 0, .int .i64 0, .int .i64 0, .int .i64 0, .string ⟨#[]⟩], .int .i64 0], []⟩ 8 (by kernel_rfl) (by kernel_rfl) (by kernel_rfl) (by kernel_rfl)) ?_
 intro W base args ds gs before hval0 hW hcnd hsz0 _
 have hval : ∀ (j : Nat) t v, Try.f6.params[j]? = some t → args[j]? = some v → Value.okWide Try.prog W .any base t v := hval0
 have hW' := hW
 obtain ⟨p, q, hA0, hV, rfl, hfz, hnd⟩ := hW
 have hA : DataW.TrodAll enc Try.prog W 0 (fun _ => true) true Try.f6.params.toList args.toList ds p := hA0
 rw [Try.params6] at hA hval
 obtain ⟨v0, vs0, d0, ds0, p0, q0, hargs, rfl, rfl, h0, r0⟩ := trodAll_cons hA
 obtain ⟨v1, vs1, d1, ds1, p1, q1, rfl, rfl, rfl, h1, r1⟩ := trodAll_cons r0
 obtain ⟨v2, vs2, d2, ds2, p2, q2, rfl, rfl, rfl, h2, r2⟩ := trodAll_cons r1
 obtain ⟨rfl, rfl, rfl⟩ := trodAll_nil r2
 obtain rfl : args = #[v0, v1, v2] := by cases args; simp_all
 obtain ⟨rfl, rfl⟩ := trodVars_none hV
 have k0 := h0
 have lt0 : ∀ x ∈ p0, x.block < W.heap.size := by obtain ⟨m, hm⟩ := k0; exact DataW.trod_lt m _ _ _ hm
 obtain ⟨A0, l0, c0, rfl, hr0, hc0, hs0⟩ := open_nodes (hval 0 22 v0 rfl rfl) h0
 have k1 := h1
 have lt1 : ∀ x ∈ p1, x.block < W.heap.size := by obtain ⟨m, hm⟩ := k1; exact DataW.trod_lt m _ _ _ hm
 obtain ⟨n1, rfl, hs1⟩ := open_node (hval 1 24 v1 rfl rfl) h1
 obtain ⟨a2, rfl, rfl, rfl, w2⟩ := open_int Try.underlying3 (hval 2 3 v2 rfl rfl) h2
 clear hA0 hval0 hsz0
 obtain ⟨k, h⟩ := inserts_pure l0 n1 a2 (fun j hj => hs0 _ (by simp [rd_T24, hj])) hs1 (i64_wf w2)
 refine (formelaw10_TreeInserts.calls k A0 c0 l0 n1.f0 n1.f1 n1.f2 n1.f3 n1.f4 a2 true W hr0 hc0 h).mono fun e W' ⟨he, bel⟩ => ?_
 subst he
 exact ⟨_, rfl, _, _, _, [], _, [], hW', trodAll_mk1 (shut_bool Try.underlying4 _), (trodAll_cons_mk (Below.trod laidOut (by kernel_rfl) (of_decide_eq_true (by kernel_rfl)) k0 bel lt0) (trodAll_cons_mk (Below.trod laidOut (by kernel_rfl) (of_decide_eq_true (by kernel_rfl)) k1 bel lt1) (trodAll_cons_mk (shut_int Try.underlying3 w2) trodAll_mk0))), rfl, bel.frame _, fun h => by cases h⟩
theorem over : Rows.treeInsertsRow.holds Try.pinned (OpenSpec.ofChange Rows.treeInsertsSpec) :=
 OpenClaim.holds_of_wide 6 Try.f6 rfl rfl rfl rfl rfl rfl rfl ⟨rfl, rfl, rfl, rfl, rfl⟩ rfl rfl rfl rfl rfl (by kernel_rfl) Try.func6 (by kernel_rfl)
  (of_decide_eq_true (by kernel_rfl)) (by unfold Func.isWrapper; first | (rw [if_pos (by decide +kernel)]; kernel_rfl) | (rw [if_neg (by decide +kernel)]; exact ⟨rfl, rfl⟩))
  (fun os started H enc _ => lifted os started H enc)
theorem proved : Rows.TreeInsertsSaid := over
#print axioms proved
end Go.Proofs.Ytpafhhgoldenoaa.treeInserts
namespace Go.Proofs.Ytpafhhgoldenoaa
theorem treeInserts_holds : Rows.TreeInsertsSaid := treeInserts.proved
end Go.Proofs.Ytpafhhgoldenoaa
end

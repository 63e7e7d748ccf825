import Derived.Test.YtpafhhgoldenoaaMatches5
/- For any lists, nodes and IDs all functions of package tree return what the reference implementation returns (up to 60 nodes): TreeMatchesReference returns true and leaves its arguments as they were. -/
section
namespace Go.Proofs.Ytpafhhgoldenoaa.P
open Go.RowKit Go.Proofs.YtpafhhgoldenoaaW.PrintWords Go.Proofs.YtpafhhgoldenoaaW.PrintLast Go.Proofs.YtpafhhgoldenoaaW.PrintMore
attribute [local go_sem] max2_int min2_int max_two min_two max_three min_three max_four min_four
set_option linter.unusedVariables false
set_option linter.unusedSimpArgs false
mutual
def formelaw10_TreeMatchesReference.j0 : Nat → List (S24) → Int → Int → Int → Bool → Int → Int → Int → Int → ByteArray → Option (Bool)
 | 0, _, _, _, _, _, _, _, _, _, _ => none
 | k + 1, x0, x2, x3, x4, x11, x394000, x394001, x394002, x394003, x394004 => (tree_Kids.f k x0 x2).bind fun bt404 => ((formeref10_Kids.f k x0 x2).bind fun bt408 => (if x11 = true then ((formeref10_SameInts.f k bt404.1 bt408.1).bind fun t412 => (if t412 = true then (formelaw10_TreeMatchesReference.j1 k x0 x2 x3 x4 (bt404.2 == bt408.2) x394000 x394001 x394002 x394003 x394004) else (formelaw10_TreeMatchesReference.j1 k x0 x2 x3 x4 false x394000 x394001 x394002 x394003 x394004))) else (formelaw10_TreeMatchesReference.j1 k x0 x2 x3 x4 false x394000 x394001 x394002 x394003 x394004)))
def formelaw10_TreeMatchesReference.j1 : Nat → List (S24) → Int → Int → Int → Bool → Int → Int → Int → Int → ByteArray → Option (Bool)
 | 0, _, _, _, _, _, _, _, _, _, _ => none
 | k + 1, x0, x2, x3, x4, x11, x394000, x394001, x394002, x394003, x394004 => (tree_Path.f x0 x2).bind fun bt413 => ((formeref10_Path.f k x0 x2).bind fun bt417 => (if x11 = true then ((formeref10_SameInts.f k bt413.1 bt417.1).bind fun t421 => (if t421 = true then (formelaw10_TreeMatchesReference.j2 k x0 x2 x3 x4 (bt413.2 == bt417.2) x394000 x394001 x394002 x394003 x394004) else (formelaw10_TreeMatchesReference.j2 k x0 x2 x3 x4 false x394000 x394001 x394002 x394003 x394004))) else (formelaw10_TreeMatchesReference.j2 k x0 x2 x3 x4 false x394000 x394001 x394002 x394003 x394004)))
def formelaw10_TreeMatchesReference.j2 : Nat → List (S24) → Int → Int → Int → Bool → Int → Int → Int → Int → ByteArray → Option (Bool)
 | 0, _, _, _, _, _, _, _, _, _, _ => none
 | k + 1, x0, x2, x3, x4, x11, x394000, x394001, x394002, x394003, x394004 => (tree_Insert.f x0 x394000 x394001 x394002 x394003 x394004 x4).bind fun bt422 => ((formeref10_Insert.f k x0 x394000 x394001 x394002 x394003 x394004 x4).bind fun bt426 => (if x11 = true then ((formeref10_Same.f k bt422.1 bt426.1).bind fun t430 => (if t430 = true then (formelaw10_TreeMatchesReference.j3 k x0 x2 x3 x4 (bt422.2 == bt426.2)) else (formelaw10_TreeMatchesReference.j3 k x0 x2 x3 x4 false))) else (formelaw10_TreeMatchesReference.j3 k x0 x2 x3 x4 false)))
def formelaw10_TreeMatchesReference.j3 : Nat → List (S24) → Int → Int → Int → Bool → Option (Bool)
 | 0, _, _, _, _, _ => none
 | k + 1, x0, x2, x3, x4, x11 => (tree_Remove.f x0 x2).bind fun bt431 => ((formeref10_Remove.f k x0 x2).bind fun bt435 => (if x11 = true then ((formeref10_Same.f k bt431.1 bt435.1).bind fun t439 => (if t439 = true then ((tree_Move.f x0 x2 x3 x4).bind fun bt440 => ((formeref10_Move.f k x0 x2 x3 x4).bind fun bt444 => (if bt431.2 = bt435.2 then ((formeref10_Same.f k bt440.1 bt444.1).bind fun t448 => (if t448 = true then (some (bt440.2 == bt444.2)) else (none))) else (none)))) else ((tree_Move.f x0 x2 x3 x4).bind fun bt449 => ((formeref10_Move.f k x0 x2 x3 x4).bind fun bt453 => (none))))) else ((tree_Move.f x0 x2 x3 x4).bind fun bt457 => ((formeref10_Move.f k x0 x2 x3 x4).bind fun bt461 => (none)))))
end
def formelaw10_TreeMatchesReference.f (k : Nat) (l0 : List (S24)) (a1_0 : Int) (a1_1 : Int) (a1_2 : Int) (a1_3 : Int) (a1_4 : ByteArray) (a2 : Int) (a3 : Int) (a4 : Int) : Option (Bool) := (formelaw10_head.f k).bind fun t394 => ((formelaw10_few.f l0).bind fun t395 => (if t395 = true then ((tree_Find.f l0 a2).bind fun bt396 => ((formeref10_Find.f k l0 a2).bind fun bt399 => (if t394 = true then ((tree_Valid.f l0).bind fun t402 => ((formeref10_Valid.f k l0).bind fun t403 => (if (t402 == t403) = true then (if bt396.1 = bt399.1 then (if (bt396.2.1 == bt399.2.1) = true then (formelaw10_TreeMatchesReference.j0 k l0 a2 a3 a4 (bt396.2.2 == bt399.2.2) a1_0 a1_1 a1_2 a1_3 a1_4) else (formelaw10_TreeMatchesReference.j0 k l0 a2 a3 a4 false a1_0 a1_1 a1_2 a1_3 a1_4)) else (formelaw10_TreeMatchesReference.j0 k l0 a2 a3 a4 false a1_0 a1_1 a1_2 a1_3 a1_4)) else (formelaw10_TreeMatchesReference.j0 k l0 a2 a3 a4 false a1_0 a1_1 a1_2 a1_3 a1_4)))) else (formelaw10_TreeMatchesReference.j0 k l0 a2 a3 a4 false a1_0 a1_1 a1_2 a1_3 a1_4)))) else (some t394)))
theorem formelaw10_TreeMatchesReference.mono_l : ∀ k, (∀ y0 y1 y2 y3 y4 y5 y6 y7 y8 y9, LeO (formelaw10_TreeMatchesReference.j0 k y0 y1 y2 y3 y4 y5 y6 y7 y8 y9) (formelaw10_TreeMatchesReference.j0 (k + 1) y0 y1 y2 y3 y4 y5 y6 y7 y8 y9)) ∧ (∀ y0 y1 y2 y3 y4 y5 y6 y7 y8 y9, LeO (formelaw10_TreeMatchesReference.j1 k y0 y1 y2 y3 y4 y5 y6 y7 y8 y9) (formelaw10_TreeMatchesReference.j1 (k + 1) y0 y1 y2 y3 y4 y5 y6 y7 y8 y9)) ∧ (∀ y0 y1 y2 y3 y4 y5 y6 y7 y8 y9, LeO (formelaw10_TreeMatchesReference.j2 k y0 y1 y2 y3 y4 y5 y6 y7 y8 y9) (formelaw10_TreeMatchesReference.j2 (k + 1) y0 y1 y2 y3 y4 y5 y6 y7 y8 y9)) ∧ (∀ y0 y1 y2 y3 y4, LeO (formelaw10_TreeMatchesReference.j3 k y0 y1 y2 y3 y4) (formelaw10_TreeMatchesReference.j3 (k + 1) y0 y1 y2 y3 y4))
 | 0 => ⟨fun _ _ _ _ _ _ _ _ _ _ r h => by simp [formelaw10_TreeMatchesReference.j0] at h, fun _ _ _ _ _ _ _ _ _ _ r h => by simp [formelaw10_TreeMatchesReference.j1] at h, fun _ _ _ _ _ _ _ _ _ _ r h => by simp [formelaw10_TreeMatchesReference.j2] at h, fun _ _ _ _ _ r h => by simp [formelaw10_TreeMatchesReference.j3] at h⟩
 | k + 1 => by
  obtain ⟨ih0, ih1, ih2, ih3⟩ := formelaw10_TreeMatchesReference.mono_l k
  refine ⟨?_, ?_, ?_, ?_⟩
  ·intro y0 y1 y2 y3 y4 y5 y6 y7 y8 y9
   unfold formelaw10_TreeMatchesReference.j0
   repeat' first
   | (with_reducible exact ih0 _ _ _ _ _ _ _ _ _ _)
   | (with_reducible exact ih1 _ _ _ _ _ _ _ _ _ _)
   | (with_reducible exact ih2 _ _ _ _ _ _ _ _ _ _)
   | (with_reducible exact ih3 _ _ _ _ _)
   | (with_reducible exact formelaw10_head.mono _)
   | (with_reducible exact formeref10_Find.mono _ _ _)
   | (with_reducible exact formeref10_Insert.mono _ _ _ _ _ _ _ _)
   | (with_reducible exact formeref10_Kids.mono _ _ _)
   | (with_reducible exact formeref10_Move.mono _ _ _ _ _)
   | (with_reducible exact formeref10_Path.mono _ _ _)
   | (with_reducible exact formeref10_Remove.mono _ _ _)
   | (with_reducible exact formeref10_Same.mono _ _ _)
   | (with_reducible exact formeref10_SameInts.mono _ _ _)
   | (with_reducible exact formeref10_Valid.mono _ _)
   | (with_reducible exact tree_Kids.mono _ _ _)
   | (with_reducible exact LeO.refl _)
   | (with_reducible exact LeO.none _)
   | (with_reducible refine LeO.ite ?_ ?_)
   | (with_reducible refine LeO.bind ?_ (fun _ => ?_))
   | exact ih0 _ _ _ _ _ _ _ _ _ _
   | exact ih1 _ _ _ _ _ _ _ _ _ _
   | exact ih2 _ _ _ _ _ _ _ _ _ _
   | exact ih3 _ _ _ _ _
   | exact formelaw10_head.mono _
   | exact formeref10_Find.mono _ _ _
   | exact formeref10_Insert.mono _ _ _ _ _ _ _ _
   | exact formeref10_Kids.mono _ _ _
   | exact formeref10_Move.mono _ _ _ _ _
   | exact formeref10_Path.mono _ _ _
   | exact formeref10_Remove.mono _ _ _
   | exact formeref10_Same.mono _ _ _
   | exact formeref10_SameInts.mono _ _ _
   | exact formeref10_Valid.mono _ _
   | exact tree_Kids.mono _ _ _
   | exact LeO.none _
   | refine LeO.ite ?_ ?_
   | refine LeO.bind ?_ (fun _ => ?_)
  ·intro y0 y1 y2 y3 y4 y5 y6 y7 y8 y9
   unfold formelaw10_TreeMatchesReference.j1
   repeat' first
   | (with_reducible exact ih0 _ _ _ _ _ _ _ _ _ _)
   | (with_reducible exact ih1 _ _ _ _ _ _ _ _ _ _)
   | (with_reducible exact ih2 _ _ _ _ _ _ _ _ _ _)
   | (with_reducible exact ih3 _ _ _ _ _)
   | (with_reducible exact formelaw10_head.mono _)
   | (with_reducible exact formeref10_Find.mono _ _ _)
   | (with_reducible exact formeref10_Insert.mono _ _ _ _ _ _ _ _)
   | (with_reducible exact formeref10_Kids.mono _ _ _)
   | (with_reducible exact formeref10_Move.mono _ _ _ _ _)
   | (with_reducible exact formeref10_Path.mono _ _ _)
   | (with_reducible exact formeref10_Remove.mono _ _ _)
   | (with_reducible exact formeref10_Same.mono _ _ _)
   | (with_reducible exact formeref10_SameInts.mono _ _ _)
   | (with_reducible exact formeref10_Valid.mono _ _)
   | (with_reducible exact tree_Kids.mono _ _ _)
   | (with_reducible exact LeO.refl _)
   | (with_reducible exact LeO.none _)
   | (with_reducible refine LeO.ite ?_ ?_)
   | (with_reducible refine LeO.bind ?_ (fun _ => ?_))
   | exact ih0 _ _ _ _ _ _ _ _ _ _
   | exact ih1 _ _ _ _ _ _ _ _ _ _
   | exact ih2 _ _ _ _ _ _ _ _ _ _
   | exact ih3 _ _ _ _ _
   | exact formelaw10_head.mono _
   | exact formeref10_Find.mono _ _ _
   | exact formeref10_Insert.mono _ _ _ _ _ _ _ _
   | exact formeref10_Kids.mono _ _ _
   | exact formeref10_Move.mono _ _ _ _ _
   | exact formeref10_Path.mono _ _ _
   | exact formeref10_Remove.mono _ _ _
   | exact formeref10_Same.mono _ _ _
   | exact formeref10_SameInts.mono _ _ _
   | exact formeref10_Valid.mono _ _
   | exact tree_Kids.mono _ _ _
   | exact LeO.none _
   | refine LeO.ite ?_ ?_
   | refine LeO.bind ?_ (fun _ => ?_)
  ·intro y0 y1 y2 y3 y4 y5 y6 y7 y8 y9
   unfold formelaw10_TreeMatchesReference.j2
   repeat' first
   | (with_reducible exact ih0 _ _ _ _ _ _ _ _ _ _)
   | (with_reducible exact ih1 _ _ _ _ _ _ _ _ _ _)
   | (with_reducible exact ih2 _ _ _ _ _ _ _ _ _ _)
   | (with_reducible exact ih3 _ _ _ _ _)
   | (with_reducible exact formelaw10_head.mono _)
   | (with_reducible exact formeref10_Find.mono _ _ _)
   | (with_reducible exact formeref10_Insert.mono _ _ _ _ _ _ _ _)
   | (with_reducible exact formeref10_Kids.mono _ _ _)
   | (with_reducible exact formeref10_Move.mono _ _ _ _ _)
   | (with_reducible exact formeref10_Path.mono _ _ _)
   | (with_reducible exact formeref10_Remove.mono _ _ _)
   | (with_reducible exact formeref10_Same.mono _ _ _)
   | (with_reducible exact formeref10_SameInts.mono _ _ _)
   | (with_reducible exact formeref10_Valid.mono _ _)
   | (with_reducible exact tree_Kids.mono _ _ _)
   | (with_reducible exact LeO.refl _)
   | (with_reducible exact LeO.none _)
   | (with_reducible refine LeO.ite ?_ ?_)
   | (with_reducible refine LeO.bind ?_ (fun _ => ?_))
   | exact ih0 _ _ _ _ _ _ _ _ _ _
   | exact ih1 _ _ _ _ _ _ _ _ _ _
   | exact ih2 _ _ _ _ _ _ _ _ _ _
   | exact ih3 _ _ _ _ _
   | exact formelaw10_head.mono _
   | exact formeref10_Find.mono _ _ _
   | exact formeref10_Insert.mono _ _ _ _ _ _ _ _
   | exact formeref10_Kids.mono _ _ _
   | exact formeref10_Move.mono _ _ _ _ _
   | exact formeref10_Path.mono _ _ _
   | exact formeref10_Remove.mono _ _ _
   | exact formeref10_Same.mono _ _ _
   | exact formeref10_SameInts.mono _ _ _
   | exact formeref10_Valid.mono _ _
   | exact tree_Kids.mono _ _ _
   | exact LeO.none _
   | refine LeO.ite ?_ ?_
   | refine LeO.bind ?_ (fun _ => ?_)
  ·intro y0 y1 y2 y3 y4
   unfold formelaw10_TreeMatchesReference.j3
   repeat' first
   | (with_reducible exact ih0 _ _ _ _ _ _ _ _ _ _)
   | (with_reducible exact ih1 _ _ _ _ _ _ _ _ _ _)
   | (with_reducible exact ih2 _ _ _ _ _ _ _ _ _ _)
   | (with_reducible exact ih3 _ _ _ _ _)
   | (with_reducible exact formelaw10_head.mono _)
   | (with_reducible exact formeref10_Find.mono _ _ _)
   | (with_reducible exact formeref10_Insert.mono _ _ _ _ _ _ _ _)
   | (with_reducible exact formeref10_Kids.mono _ _ _)
   | (with_reducible exact formeref10_Move.mono _ _ _ _ _)
   | (with_reducible exact formeref10_Path.mono _ _ _)
   | (with_reducible exact formeref10_Remove.mono _ _ _)
   | (with_reducible exact formeref10_Same.mono _ _ _)
   | (with_reducible exact formeref10_SameInts.mono _ _ _)
   | (with_reducible exact formeref10_Valid.mono _ _)
   | (with_reducible exact tree_Kids.mono _ _ _)
   | (with_reducible exact LeO.refl _)
   | (with_reducible exact LeO.none _)
   | (with_reducible refine LeO.ite ?_ ?_)
   | (with_reducible refine LeO.bind ?_ (fun _ => ?_))
   | exact ih0 _ _ _ _ _ _ _ _ _ _
   | exact ih1 _ _ _ _ _ _ _ _ _ _
   | exact ih2 _ _ _ _ _ _ _ _ _ _
   | exact ih3 _ _ _ _ _
   | exact formelaw10_head.mono _
   | exact formeref10_Find.mono _ _ _
   | exact formeref10_Insert.mono _ _ _ _ _ _ _ _
   | exact formeref10_Kids.mono _ _ _
   | exact formeref10_Move.mono _ _ _ _ _
   | exact formeref10_Path.mono _ _ _
   | exact formeref10_Remove.mono _ _ _
   | exact formeref10_Same.mono _ _ _
   | exact formeref10_SameInts.mono _ _ _
   | exact formeref10_Valid.mono _ _
   | exact tree_Kids.mono _ _ _
   | exact LeO.none _
   | refine LeO.ite ?_ ?_
   | refine LeO.bind ?_ (fun _ => ?_)
theorem formelaw10_TreeMatchesReference.mono : ∀ a0 a1 a2 a3 a4 a5 a6 a7 a8 k, LeO (formelaw10_TreeMatchesReference.f k a0 a1 a2 a3 a4 a5 a6 a7 a8) (formelaw10_TreeMatchesReference.f (k + 1) a0 a1 a2 a3 a4 a5 a6 a7 a8) := by
 intro a0 a1 a2 a3 a4 a5 a6 a7 a8 k
 obtain ⟨ih0, ih1, ih2, ih3⟩ := formelaw10_TreeMatchesReference.mono_l k
 unfold formelaw10_TreeMatchesReference.f
 repeat' first
   | (with_reducible exact ih0 _ _ _ _ _ _ _ _ _ _)
   | (with_reducible exact ih1 _ _ _ _ _ _ _ _ _ _)
   | (with_reducible exact ih2 _ _ _ _ _ _ _ _ _ _)
   | (with_reducible exact ih3 _ _ _ _ _)
   | (with_reducible exact formelaw10_head.mono _)
   | (with_reducible exact formeref10_Find.mono _ _ _)
   | (with_reducible exact formeref10_Insert.mono _ _ _ _ _ _ _ _)
   | (with_reducible exact formeref10_Kids.mono _ _ _)
   | (with_reducible exact formeref10_Move.mono _ _ _ _ _)
   | (with_reducible exact formeref10_Path.mono _ _ _)
   | (with_reducible exact formeref10_Remove.mono _ _ _)
   | (with_reducible exact formeref10_Same.mono _ _ _)
   | (with_reducible exact formeref10_SameInts.mono _ _ _)
   | (with_reducible exact formeref10_Valid.mono _ _)
   | (with_reducible exact tree_Kids.mono _ _ _)
   | (with_reducible exact LeO.refl _)
   | (with_reducible exact LeO.none _)
   | (with_reducible refine LeO.ite ?_ ?_)
   | (with_reducible refine LeO.bind ?_ (fun _ => ?_))
   | exact ih0 _ _ _ _ _ _ _ _ _ _
   | exact ih1 _ _ _ _ _ _ _ _ _ _
   | exact ih2 _ _ _ _ _ _ _ _ _ _
   | exact ih3 _ _ _ _ _
   | exact formelaw10_head.mono _
   | exact formeref10_Find.mono _ _ _
   | exact formeref10_Insert.mono _ _ _ _ _ _ _ _
   | exact formeref10_Kids.mono _ _ _
   | exact formeref10_Move.mono _ _ _ _ _
   | exact formeref10_Path.mono _ _ _
   | exact formeref10_Remove.mono _ _ _
   | exact formeref10_Same.mono _ _ _
   | exact formeref10_SameInts.mono _ _ _
   | exact formeref10_Valid.mono _ _
   | exact tree_Kids.mono _ _ _
   | exact LeO.none _
   | refine LeO.ite ?_ ?_
   | refine LeO.bind ?_ (fun _ => ?_)
set_option maxHeartbeats 8000000 in
set_option maxRecDepth 100000 in
theorem formelaw10_TreeMatchesReference.calls (k : Nat) (A0 : Option Addr) (c0 : Nat) (l0 : List (S24)) (a1_0 : Int) (a1_1 : Int) (a1_2 : Int) (a1_3 : Int) (a1_4 : ByteArray) (a2 : Int) (a3 : Int) (a4 : Int) (r : Bool) (w : World) (hr0 : Kd.C k24 w A0 l0.length l0) (hc0 : l0.length ≤ c0) (h : formelaw10_TreeMatchesReference.f k l0 a1_0 a1_1 a1_2 a1_3 a1_4 a2 a3 a4 = some r) :
  Calls Try.prog 3 #[.slice A0 l0.length c0, .agg #[.int .i64 a1_0, .int .i64 a1_1, .int .i64 a1_2, .int .i64 a1_3, .string a1_4], .int .i64 a2, .int .i64 a3, .int .i64 a4] w fun e w' => e = .returned (.bool r) ∧ Below w.heap.size w w' := by
 have hu24 := Try.underlying24
 have HR0 := Aside0.mk hr0
 have HC0 := Aside0.mk hc0
 clear hr0 hc0
 have HB := Aside0.mk (Below.refl w.heap.size w)
 have H : ((formelaw10_head.f k).bind fun t394 => ((formelaw10_few.f l0).bind fun t395 => (if t395 = true then ((tree_Find.f l0 a2).bind fun bt396 => ((formeref10_Find.f k l0 a2).bind fun bt399 => (if t394 = true then ((tree_Valid.f l0).bind fun t402 => ((formeref10_Valid.f k l0).bind fun t403 => (if (t402 == t403) = true then (if bt396.1 = bt399.1 then (if (bt396.2.1 == bt399.2.1) = true then (formelaw10_TreeMatchesReference.j0 k l0 a2 a3 a4 (bt396.2.2 == bt399.2.2) a1_0 a1_1 a1_2 a1_3 a1_4) else (formelaw10_TreeMatchesReference.j0 k l0 a2 a3 a4 false a1_0 a1_1 a1_2 a1_3 a1_4)) else (formelaw10_TreeMatchesReference.j0 k l0 a2 a3 a4 false a1_0 a1_1 a1_2 a1_3 a1_4)) else (formelaw10_TreeMatchesReference.j0 k l0 a2 a3 a4 false a1_0 a1_1 a1_2 a1_3 a1_4)))) else (formelaw10_TreeMatchesReference.j0 k l0 a2 a3 a4 false a1_0 a1_1 a1_2 a1_3 a1_4)))) else (some t394)))) = some r := h
 clear h
 replace H := Option.bind_eq_some_iff.mp H
 obtain ⟨t394, A60, H⟩ := H
 try dsimp only at H
 have A6 := Aside0.mk A60
 clear A60
 replace H := Option.bind_eq_some_iff.mp H
 obtain ⟨t395, A70, H⟩ := H
 try dsimp only at H
 have A7 := Aside0.mk A70
 clear A70
 by_cases c8 : t395 = true
 ·subst c8
  have H1 : ((tree_Find.f l0 a2).bind fun bt396 => ((formeref10_Find.f k l0 a2).bind fun bt399 => (if t394 = true then ((tree_Valid.f l0).bind fun t402 => ((formeref10_Valid.f k l0).bind fun t403 => (if (t402 == t403) = true then (if bt396.1 = bt399.1 then (if (bt396.2.1 == bt399.2.1) = true then (formelaw10_TreeMatchesReference.j0 k l0 a2 a3 a4 (bt396.2.2 == bt399.2.2) a1_0 a1_1 a1_2 a1_3 a1_4) else (formelaw10_TreeMatchesReference.j0 k l0 a2 a3 a4 false a1_0 a1_1 a1_2 a1_3 a1_4)) else (formelaw10_TreeMatchesReference.j0 k l0 a2 a3 a4 false a1_0 a1_1 a1_2 a1_3 a1_4)) else (formelaw10_TreeMatchesReference.j0 k l0 a2 a3 a4 false a1_0 a1_1 a1_2 a1_3 a1_4)))) else (formelaw10_TreeMatchesReference.j0 k l0 a2 a3 a4 false a1_0 a1_1 a1_2 a1_3 a1_4)))) = some r := by rw [if_pos rfl] at H; exact H
  clear H
  have H := H1
  clear H1
  replace H := Option.bind_eq_some_iff.mp H
  obtain ⟨⟨t396, t397, t398⟩, A90, H⟩ := H
  try dsimp only at H
  have A9 := Aside0.mk A90
  clear A90
  replace H := Option.bind_eq_some_iff.mp H
  obtain ⟨⟨t399, t400, t401⟩, A100, H⟩ := H
  try dsimp only at H
  have A10 := Aside0.mk A100
  clear A100
  have HC11 := Aside0.mk H
  clear H
  go_enter Try.func3, Try.ntmps3
  go_upto_region 6 with (first | ((with_reducible refine gate_dst (N := 6) rfl ?_); refine box_event ?hg (N := 6) ?hd (cs := #[.int .i64 a1_0, .int .i64 a1_1, .int .i64 a1_2, .int .i64 a1_3, .string a1_4]) (t := 24) ?hr ?_; (case hd => rfl); (case hg => rfl); (case hr => exact z13_); intro gb393 hg w12 hbox hb; have n0_ := Aside0.mk (below_step z1_ hb); have n1_ := Aside0.mk (hbox); have n2_ := Aside0.mk ((by rw [hg]; exact (below_size z1_) : w.heap.size ≤ gb393)); have n3_ := Aside0.mk ((by rw [hg]; exact (below_size z1_) : w.heap.size ≤ gb393)); clear HB; have HB := n0_; have BK393 := n1_; have GW393 := n2_; have GE393 := n3_; clear n0_ n1_ n2_ n3_; clear hb hbox hg) | ((with_reducible refine gate_callee (f := 9) rfl ?_); refine goesL_ (some 22) rfl rfl Try.func9 (by kernel_rfl) rfl #[] rfl z2_ ?_; (with_reducible refine (formelaw10_head.calls k  t394 _ A6.out).mono ?_); rintro e w13 ⟨rfl, hb⟩; refine ⟨_, rfl, ?_⟩; have n0_ := Aside0.mk (blk_below (g := gb393) (o := .cells #[.int .i64 a1_0, .int .i64 a1_1, .int .i64 a1_2, .int .i64 a1_3, .string a1_4] 24 (0, 0)) z10_ hb); have n1_ := Aside0.mk (below_step z6_ hb); clear BK393; clear HB; have BK393 := n0_; have HB := n1_; clear n0_ n1_; (try clear hb); (try clear hb2); (try clear hk); (try clear hi)) | ((with_reducible refine gate_callee (f := 10) rfl ?_); refine goesL_ (some 24) rfl rfl Try.func10 (by kernel_rfl) rfl #[.slice A0 l0.length c0] rfl z2_ ?_; (with_reducible refine (formelaw10_few.calls _ _ l0 true _ ?side1 ?side2 A7.out).mono ?_); (case side1 => exact z3_); (case side2 => exact HC0.out); rintro e w' ⟨rfl, ⟨nd, rfl⟩⟩; refine ⟨_, rfl, ?_⟩) | ((with_reducible refine gate_callee (f := 11) rfl ?_); refine goesL_ (some 30) rfl rfl Try.func11 (by kernel_rfl) rfl #[.slice A0 l0.length c0, .int .i64 a2] rfl z2_ ?_; (with_reducible refine (tree_Find.calls _ _ l0 a2 t396 t397 t398 _ ?side1 ?side2 A9.out).mono ?_); (case side1 => repeat (first | exact (Kd.C_below HR0.out z6_) | (with_reducible refine Kd.C_alloc ?_ _) | (with_reducible refine Kd.C_drewN ?_ _) | (with_reducible refine Kd.C_drew ?_))); (case side2 => exact HC0.out); rintro e w14 ⟨rfl, hb⟩; refine ⟨_, rfl, ?_⟩; have n0_ := Aside0.mk (blk_below (g := gb393) (o := .cells #[.int .i64 a1_0, .int .i64 a1_1, .int .i64 a1_2, .int .i64 a1_3, .string a1_4] 24 (0, 0)) z10_ hb); have n1_ := Aside0.mk (below_step z6_ hb); clear BK393; clear HB; have BK393 := n0_; have HB := n1_; clear n0_ n1_; (try clear hb); (try clear hb2); (try clear hk); (try clear hi)) | ((with_reducible refine gate_callee (f := 12) rfl ?_); refine goesL_ (some 37) rfl rfl Try.func12 (by kernel_rfl) rfl #[.slice A0 l0.length c0, .int .i64 a2] rfl z2_ ?_; (with_reducible refine (formeref10_Find.calls k _ _ l0 a2 t399 t400 t401 _ ?side1 ?side2 A10.out).mono ?_); (case side1 => exact z3_); (case side2 => exact HC0.out); rintro e w15 ⟨rfl, hb⟩; refine ⟨_, rfl, ?_⟩; have n0_ := Aside0.mk (blk_below (g := gb393) (o := .cells #[.int .i64 a1_0, .int .i64 a1_1, .int .i64 a1_2, .int .i64 a1_3, .string a1_4] 24 (0, 0)) z10_ hb); have n1_ := Aside0.mk (below_step z6_ hb); clear BK393; clear HB; have BK393 := n0_; have HB := n1_; clear n0_ n1_; (try clear hb); (try clear hb2); (try clear hk); (try clear hi)))
  (try simp only [Act.put, List.setIfInBounds_toArray, List.set_cons_zero, List.set_cons_succ])
  go_cut [11] (fun v11 wc => ∃ (kq : Nat) (x11_10 : Bool), v11 = .bool x11_10 ∧ Aside0 (formelaw10_TreeMatchesReference.j0 kq l0 a2 a3 a4 x11_10 a1_0 a1_1 a1_2 a1_3 a1_4 = some r) ∧ Aside0 (kq ≤ k) ∧ Aside0 (wc.heap[gb393]? = some (.cells #[.int .i64 a1_0, .int .i64 a1_1, .int .i64 a1_2, .int .i64 a1_3, .string a1_4] 24 (0, 0))) ∧ Aside0 (Below w.heap.size w wc))
  case first =>
   have H := HC11.out
   clear HC11
   by_cases c16 : t394 = true
   ·subst c16
    have H1 : ((tree_Valid.f l0).bind fun t402 => ((formeref10_Valid.f k l0).bind fun t403 => (if (t402 == t403) = true then (if t396 = t399 then (if (t397 == t400) = true then (formelaw10_TreeMatchesReference.j0 k l0 a2 a3 a4 (t398 == t401) a1_0 a1_1 a1_2 a1_3 a1_4) else (formelaw10_TreeMatchesReference.j0 k l0 a2 a3 a4 false a1_0 a1_1 a1_2 a1_3 a1_4)) else (formelaw10_TreeMatchesReference.j0 k l0 a2 a3 a4 false a1_0 a1_1 a1_2 a1_3 a1_4)) else (formelaw10_TreeMatchesReference.j0 k l0 a2 a3 a4 false a1_0 a1_1 a1_2 a1_3 a1_4)))) = some r := by rw [if_pos rfl] at H; exact H
    clear H
    have H := H1
    clear H1
    replace H := Option.bind_eq_some_iff.mp H
    obtain ⟨t402, A170, H⟩ := H
    try dsimp only at H
    have A17 := Aside0.mk A170
    clear A170
    replace H := Option.bind_eq_some_iff.mp H
    obtain ⟨t403, A180, H⟩ := H
    try dsimp only at H
    have A18 := Aside0.mk A180
    clear A180
    by_cases c19 : (t402 == t403) = true
    ·rw [if_pos c19] at H
     have c19b0 : (t402 == t403) = true := c19
     (try (have c19b1 : decide (t402 = t403) = true := by simpa using c19))
     (try (have c19b2 : (t402 == t403) = true := by simpa using c19))
     clear c19
     (first | rw [c19b0] | (simp only [i64_w, i32_w]; rw [c19b0]) | skip)
     by_cases c20 : t396 = t399
     ·rw [if_pos c20] at H
      have c20b0 : (t396 == t399) = true := beq_iff_eq.mpr c20
      have c20b1 : (t396 != t399) = false := bne_eq_false_iff_eq.mpr c20
      clear c20
      by_cases c21 : (t397 == t400) = true
      ·rw [if_pos c21] at H
       have c21b0 : (t397 == t400) = true := c21
       (try (have c21b1 : decide (t397 = t400) = true := by simpa using c21))
       (try (have c21b2 : (t397 == t400) = true := by simpa using c21))
       clear c21
       have H' := Aside0.mk H
       clear H
       go_wp2_with (first | (go_at_call 13; (with_reducible refine (tree_Valid.calls _ _ l0 t402 _ ?side1 ?side2 A17.out).mono ?_); (case side1 => exact z3_); (case side2 => exact HC0.out); rintro e w22 ⟨rfl, hb⟩; have n0_ := Aside0.mk (blk_below (g := gb393) (o := .cells #[.int .i64 a1_0, .int .i64 a1_1, .int .i64 a1_2, .int .i64 a1_3, .string a1_4] 24 (0, 0)) z10_ hb); have n1_ := Aside0.mk (below_step z6_ hb); clear BK393; clear HB; have BK393 := n0_; have HB := n1_; clear n0_ n1_; (try clear hb); (try clear hb2); (try clear hk); (try clear hi)) | (go_at_call 14; (with_reducible refine (formeref10_Valid.calls k _ _ l0 t403 _ ?side1 ?side2 A18.out).mono ?_); (case side1 => exact z3_); (case side2 => exact HC0.out); rintro e w23 ⟨rfl, hb⟩; have n0_ := Aside0.mk (blk_below (g := gb393) (o := .cells #[.int .i64 a1_0, .int .i64 a1_1, .int .i64 a1_2, .int .i64 a1_3, .string a1_4] 24 (0, 0)) z10_ hb); have n1_ := Aside0.mk (below_step z6_ hb); clear BK393; clear HB; have BK393 := n0_; have HB := n1_; clear n0_ n1_; (try clear hb); (try clear hb2); (try clear hk); (try clear hi)))
       go_meet
       case rel => exact ⟨_, ((t398 == t401)), z9_, H', ⟨by first | omega | exact Nat.le_refl _⟩, ⟨by (with_reducible repeat (first | refine blk_drewN ?_ _ | refine blk_drew ?_ | refine blk_alloc ?_ _)); exact BK393.out⟩, ⟨by repeat (first | (with_reducible first | exact HB.out | apply below_alloc | apply pw_below_drewN | apply below_drew1 | refine below_set ?_ GE393.out) | exact HB.out)⟩⟩
      ·rw [if_neg c21] at H
       have c21b0 : (t397 == t400) = false := by simpa using c21
       (try (have c21b1 : decide (t397 = t400) = false := by simpa using c21))
       (try (have c21b2 : (t397 == t400) = false := by simpa using c21))
       (try (have c21b3 : ¬ (t397 = t400) := by simpa using c21))
       clear c21
       have H' := Aside0.mk H
       clear H
       go_wp2_with (first | (go_at_call 13; (with_reducible refine (tree_Valid.calls _ _ l0 t402 _ ?side1 ?side2 A17.out).mono ?_); (case side1 => exact z3_); (case side2 => exact HC0.out); rintro e w24 ⟨rfl, hb⟩; have n0_ := Aside0.mk (blk_below (g := gb393) (o := .cells #[.int .i64 a1_0, .int .i64 a1_1, .int .i64 a1_2, .int .i64 a1_3, .string a1_4] 24 (0, 0)) z10_ hb); have n1_ := Aside0.mk (below_step z6_ hb); clear BK393; clear HB; have BK393 := n0_; have HB := n1_; clear n0_ n1_; (try clear hb); (try clear hb2); (try clear hk); (try clear hi)) | (go_at_call 14; (with_reducible refine (formeref10_Valid.calls k _ _ l0 t403 _ ?side1 ?side2 A18.out).mono ?_); (case side1 => exact z3_); (case side2 => exact HC0.out); rintro e w25 ⟨rfl, hb⟩; have n0_ := Aside0.mk (blk_below (g := gb393) (o := .cells #[.int .i64 a1_0, .int .i64 a1_1, .int .i64 a1_2, .int .i64 a1_3, .string a1_4] 24 (0, 0)) z10_ hb); have n1_ := Aside0.mk (below_step z6_ hb); clear BK393; clear HB; have BK393 := n0_; have HB := n1_; clear n0_ n1_; (try clear hb); (try clear hb2); (try clear hk); (try clear hi)))
       go_meet
       case rel => exact ⟨_, (false), z9_, H', ⟨by first | omega | exact Nat.le_refl _⟩, ⟨by (with_reducible repeat (first | refine blk_drewN ?_ _ | refine blk_drew ?_ | refine blk_alloc ?_ _)); exact BK393.out⟩, ⟨by repeat (first | (with_reducible first | exact HB.out | apply below_alloc | apply pw_below_drewN | apply below_drew1 | refine below_set ?_ GE393.out) | exact HB.out)⟩⟩
     ·rw [if_neg c20] at H
      have c20b0 : (t396 == t399) = false := beq_eq_false_iff_ne.mpr c20
      have c20b1 : (t396 != t399) = true := bne_iff_ne.mpr c20
      have H' := Aside0.mk H
      clear H
      go_wp2_with (first | (go_at_call 13; (with_reducible refine (tree_Valid.calls _ _ l0 t402 _ ?side1 ?side2 A17.out).mono ?_); (case side1 => exact z3_); (case side2 => exact HC0.out); rintro e w26 ⟨rfl, hb⟩; have n0_ := Aside0.mk (blk_below (g := gb393) (o := .cells #[.int .i64 a1_0, .int .i64 a1_1, .int .i64 a1_2, .int .i64 a1_3, .string a1_4] 24 (0, 0)) z10_ hb); have n1_ := Aside0.mk (below_step z6_ hb); clear BK393; clear HB; have BK393 := n0_; have HB := n1_; clear n0_ n1_; (try clear hb); (try clear hb2); (try clear hk); (try clear hi)) | (go_at_call 14; (with_reducible refine (formeref10_Valid.calls k _ _ l0 t403 _ ?side1 ?side2 A18.out).mono ?_); (case side1 => exact z3_); (case side2 => exact HC0.out); rintro e w27 ⟨rfl, hb⟩; have n0_ := Aside0.mk (blk_below (g := gb393) (o := .cells #[.int .i64 a1_0, .int .i64 a1_1, .int .i64 a1_2, .int .i64 a1_3, .string a1_4] 24 (0, 0)) z10_ hb); have n1_ := Aside0.mk (below_step z6_ hb); clear BK393; clear HB; have BK393 := n0_; have HB := n1_; clear n0_ n1_; (try clear hb); (try clear hb2); (try clear hk); (try clear hi)))
      go_meet
      case rel => exact ⟨_, (false), z9_, H', ⟨by first | omega | exact Nat.le_refl _⟩, ⟨by (with_reducible repeat (first | refine blk_drewN ?_ _ | refine blk_drew ?_ | refine blk_alloc ?_ _)); exact BK393.out⟩, ⟨by repeat (first | (with_reducible first | exact HB.out | apply below_alloc | apply pw_below_drewN | apply below_drew1 | refine below_set ?_ GE393.out) | exact HB.out)⟩⟩
    ·rw [if_neg c19] at H
     have c19b0 : (t402 == t403) = false := by simpa using c19
     (try (have c19b1 : decide (t402 = t403) = false := by simpa using c19))
     (try (have c19b2 : (t402 == t403) = false := by simpa using c19))
     (try (have c19b3 : ¬ (t402 = t403) := by simpa using c19))
     clear c19
     (first | rw [c19b0] | (simp only [i64_w, i32_w]; rw [c19b0]) | skip)
     have H' := Aside0.mk H
     clear H
     go_wp2_with (first | (go_at_call 13; (with_reducible refine (tree_Valid.calls _ _ l0 t402 _ ?side1 ?side2 A17.out).mono ?_); (case side1 => exact z3_); (case side2 => exact HC0.out); rintro e w28 ⟨rfl, hb⟩; have n0_ := Aside0.mk (blk_below (g := gb393) (o := .cells #[.int .i64 a1_0, .int .i64 a1_1, .int .i64 a1_2, .int .i64 a1_3, .string a1_4] 24 (0, 0)) z10_ hb); have n1_ := Aside0.mk (below_step z6_ hb); clear BK393; clear HB; have BK393 := n0_; have HB := n1_; clear n0_ n1_; (try clear hb); (try clear hb2); (try clear hk); (try clear hi)) | (go_at_call 14; (with_reducible refine (formeref10_Valid.calls k _ _ l0 t403 _ ?side1 ?side2 A18.out).mono ?_); (case side1 => exact z3_); (case side2 => exact HC0.out); rintro e w29 ⟨rfl, hb⟩; have n0_ := Aside0.mk (blk_below (g := gb393) (o := .cells #[.int .i64 a1_0, .int .i64 a1_1, .int .i64 a1_2, .int .i64 a1_3, .string a1_4] 24 (0, 0)) z10_ hb); have n1_ := Aside0.mk (below_step z6_ hb); clear BK393; clear HB; have BK393 := n0_; have HB := n1_; clear n0_ n1_; (try clear hb); (try clear hb2); (try clear hk); (try clear hi)))
     go_meet
     case rel => exact ⟨_, (false), z9_, H', ⟨by first | omega | exact Nat.le_refl _⟩, ⟨by (with_reducible repeat (first | refine blk_drewN ?_ _ | refine blk_drew ?_ | refine blk_alloc ?_ _)); exact BK393.out⟩, ⟨by repeat (first | (with_reducible first | exact HB.out | apply below_alloc | apply pw_below_drewN | apply below_drew1 | refine below_set ?_ GE393.out) | exact HB.out)⟩⟩
   ·replace c16 := Bool.eq_false_iff.mpr c16
    subst c16
    have H1 : (formelaw10_TreeMatchesReference.j0 k l0 a2 a3 a4 false a1_0 a1_1 a1_2 a1_3 a1_4) = some r := by rw [if_neg (show ¬ (false = true) by decide)] at H; exact H
    clear H
    have H := H1
    clear H1
    have H' := Aside0.mk H
    clear H
    go_wp2
    go_meet
    case rel => exact ⟨_, (false), z9_, H', ⟨by first | omega | exact Nat.le_refl _⟩, ⟨by (with_reducible repeat (first | refine blk_drewN ?_ _ | refine blk_drew ?_ | refine blk_alloc ?_ _)); exact BK393.out⟩, ⟨by repeat (first | (with_reducible first | exact HB.out | apply below_alloc | apply pw_below_drewN | apply below_drew1 | refine below_set ?_ GE393.out) | exact HB.out)⟩⟩
  case rest =>
   clear HC11
   try clear c1
   try clear c2
   try clear p2
   try clear c3
   try clear c8
   try clear c9
   try clear c10
   try clear c11
   try clear c12
   try clear c16
   try clear c19
   try clear c19b0
   try clear c19b1
   try clear c19b2
   try clear c20
   try clear c20b0
   try clear c20b1
   try clear c21
   try clear c21b0
   try clear c21b1
   try clear c21b2
   obtain ⟨kq, x11_10, rfl, HA, HJ10, BK393, HB⟩ := hcut
   cases kq with
   | zero => exact absurd HA.out (by simp [formelaw10_TreeMatchesReference.j0])
   | succ kj10 =>
    have H := HA.out
    clear HA
    simp only [formelaw10_TreeMatchesReference.j0] at H
    replace H := Option.bind_eq_some_iff.mp H
    obtain ⟨⟨t404, t405⟩, A300, H⟩ := H
    try dsimp only at H
    have A30 := Aside0.mk A300
    clear A300
    replace H := Option.bind_eq_some_iff.mp H
    obtain ⟨⟨t408, t409⟩, A310, H⟩ := H
    try dsimp only at H
    have A31 := Aside0.mk A310
    clear A310
    have HC32 := Aside0.mk H
    clear H
    go_upto_region 9 with (first | ((with_reducible refine gate_callee (f := 15) rfl ?_); refine goesL_ (some 67) rfl rfl Try.func15 (by kernel_rfl) rfl #[.slice A0 l0.length c0, .int .i64 a2] rfl z2_ ?_; (with_reducible refine (tree_Kids.calls kj10 _ _ l0 a2 t404 t405 _ ?side1 ?side2 A30.out).mono ?_); (case side1 => exact z3_); (case side2 => exact HC0.out); rintro e w33 ⟨v406, rfl, ho0, hb⟩; refine ⟨_, rfl, ?_⟩; have n0_ := Aside0.mk (Kd.R_lower ho0 (below_size z6_)); have n1_ := Aside0.mk (blk_below (g := gb393) (o := .cells #[.int .i64 a1_0, .int .i64 a1_1, .int .i64 a1_2, .int .i64 a1_3, .string a1_4] 24 (0, 0)) z10_ hb); have n2_ := Aside0.mk (below_step z6_ hb); clear BK393; clear HB; have HO407 := n0_; have BK393 := n1_; have HB := n2_; clear n0_ n1_ n2_; (try clear hb); (try clear hb2); (try clear hk); (try clear hi); (try clear ho0)) | ((with_reducible refine gate_callee (f := 16) rfl ?_); refine goesL_ (some 73) rfl rfl Try.func16 (by kernel_rfl) rfl #[.slice A0 l0.length c0, .int .i64 a2] rfl z2_ ?_; (with_reducible refine (formeref10_Kids.calls kj10 _ _ l0 a2 t408 t409 _ ?side1 ?side2 A31.out).mono ?_); (case side1 => exact z3_); (case side2 => exact HC0.out); rintro e w34 ⟨v410, rfl, ho0, hb⟩; refine ⟨_, rfl, ?_⟩; have n0_ := Aside0.mk (Kd.R_elder' (by (with_reducible repeat (first | apply Kd.R_alloc | apply Kd.R_drewN | apply Kd.R_drew)); exact HO407.out) (Kd.R_base ho0) hb); have n1_ := Aside0.mk (Kd.R_lower (Kd.R_new' ho0 (Kd.R_lt (by (with_reducible repeat (first | apply Kd.R_alloc | apply Kd.R_drewN | apply Kd.R_drew)); exact HO407.out))) (below_size z6_)); have n2_ := Aside0.mk (blk_below (g := gb393) (o := .cells #[.int .i64 a1_0, .int .i64 a1_1, .int .i64 a1_2, .int .i64 a1_3, .string a1_4] 24 (0, 0)) z10_ hb); have n3_ := Aside0.mk (below_step z6_ hb); clear HO407; clear BK393; clear HB; have HO407 := n0_; have HO411 := n1_; have BK393 := n2_; have HB := n3_; clear n0_ n1_ n2_ n3_; (try clear hb); (try clear hb2); (try clear hk); (try clear hi); (try clear ho0)))
    (try simp only [Act.put, List.setIfInBounds_toArray, List.set_cons_zero, List.set_cons_succ])
    go_cut [11] (fun v11 wc => ∃ (kq : Nat) (x11_31 : Bool), v11 = .bool x11_31 ∧ Aside0 (formelaw10_TreeMatchesReference.j1 kq l0 a2 a3 a4 x11_31 a1_0 a1_1 a1_2 a1_3 a1_4 = some r) ∧ Aside0 (kq ≤ kj10) ∧ Aside0 (wc.heap[gb393]? = some (.cells #[.int .i64 a1_0, .int .i64 a1_1, .int .i64 a1_2, .int .i64 a1_3, .string a1_4] 24 (0, 0))) ∧ Aside0 (Below w.heap.size w wc))
    case first =>
     have H := HC32.out
     clear HC32
     by_cases c35 : x11_10 = true
     ·subst c35
      have H1 : ((formeref10_SameInts.f kj10 t404 t408).bind fun t412 => (if t412 = true then (formelaw10_TreeMatchesReference.j1 kj10 l0 a2 a3 a4 (t405 == t409) a1_0 a1_1 a1_2 a1_3 a1_4) else (formelaw10_TreeMatchesReference.j1 kj10 l0 a2 a3 a4 false a1_0 a1_1 a1_2 a1_3 a1_4))) = some r := by rw [if_pos rfl] at H; exact H
      clear H
      have H := H1
      clear H1
      replace H := Option.bind_eq_some_iff.mp H
      obtain ⟨t412, A360, H⟩ := H
      try dsimp only at H
      have A36 := Aside0.mk A360
      clear A360
      by_cases c37 : t412 = true
      ·subst c37
       have H1 : (formelaw10_TreeMatchesReference.j1 kj10 l0 a2 a3 a4 (t405 == t409) a1_0 a1_1 a1_2 a1_3 a1_4) = some r := by rw [if_pos rfl] at H; exact H
       clear H
       have H := H1
       clear H1
       have H' := Aside0.mk H
       clear H
       obtain ⟨Ao38, co38, eo38⟩ := Kd.R_slice HO407.out
       subst eo38
       obtain ⟨Ao39, co39, eo39⟩ := Kd.R_slice HO411.out
       subst eo39
       go_wp2_with (first | (go_at_call 17; (with_reducible refine (formeref10_SameInts.calls kj10 _ _ t404 _ _ t408 true _ ?side1 ?side2 ?side3 ?side4 A36.out).mono ?_); (case side1 => repeat (first | exact (Kd.R_reads' HO407.out).2.2 | (with_reducible refine Kd.C_alloc ?_ _) | (with_reducible refine Kd.C_drewN ?_ _) | (with_reducible refine Kd.C_drew ?_))); (case side2 => exact (Kd.R_reads' HO407.out).2.1); (case side3 => repeat (first | exact (Kd.R_reads' HO411.out).2.2 | (with_reducible refine Kd.C_alloc ?_ _) | (with_reducible refine Kd.C_drewN ?_ _) | (with_reducible refine Kd.C_drew ?_))); (case side4 => exact (Kd.R_reads' HO411.out).2.1); rintro e w' ⟨rfl, ⟨nd, rfl⟩⟩))
       go_meet
       case rel => exact ⟨_, ((t405 == t409)), z9_, H', ⟨by have := HJ10.out; first | omega | exact Nat.le_refl _⟩, ⟨by (with_reducible repeat (first | refine blk_drewN ?_ _ | refine blk_drew ?_ | refine blk_alloc ?_ _)); exact BK393.out⟩, ⟨by repeat (first | (with_reducible first | exact HB.out | apply below_alloc | apply pw_below_drewN | apply below_drew1 | refine below_set ?_ GE393.out) | exact HB.out)⟩⟩
      ·replace c37 := Bool.eq_false_iff.mpr c37
       subst c37
       have H1 : (formelaw10_TreeMatchesReference.j1 kj10 l0 a2 a3 a4 false a1_0 a1_1 a1_2 a1_3 a1_4) = some r := by rw [if_neg (show ¬ (false = true) by decide)] at H; exact H
       clear H
       have H := H1
       clear H1
       have H' := Aside0.mk H
       clear H
       obtain ⟨Ao40, co40, eo40⟩ := Kd.R_slice HO407.out
       subst eo40
       obtain ⟨Ao41, co41, eo41⟩ := Kd.R_slice HO411.out
       subst eo41
       go_wp2_with (first | (go_at_call 17; (with_reducible refine (formeref10_SameInts.calls kj10 _ _ t404 _ _ t408 false _ ?side1 ?side2 ?side3 ?side4 A36.out).mono ?_); (case side1 => repeat (first | exact (Kd.R_reads' HO407.out).2.2 | (with_reducible refine Kd.C_alloc ?_ _) | (with_reducible refine Kd.C_drewN ?_ _) | (with_reducible refine Kd.C_drew ?_))); (case side2 => exact (Kd.R_reads' HO407.out).2.1); (case side3 => repeat (first | exact (Kd.R_reads' HO411.out).2.2 | (with_reducible refine Kd.C_alloc ?_ _) | (with_reducible refine Kd.C_drewN ?_ _) | (with_reducible refine Kd.C_drew ?_))); (case side4 => exact (Kd.R_reads' HO411.out).2.1); rintro e w' ⟨rfl, ⟨nd, rfl⟩⟩))
       go_meet
       case rel => exact ⟨_, (false), z9_, H', ⟨by have := HJ10.out; first | omega | exact Nat.le_refl _⟩, ⟨by (with_reducible repeat (first | refine blk_drewN ?_ _ | refine blk_drew ?_ | refine blk_alloc ?_ _)); exact BK393.out⟩, ⟨by repeat (first | (with_reducible first | exact HB.out | apply below_alloc | apply pw_below_drewN | apply below_drew1 | refine below_set ?_ GE393.out) | exact HB.out)⟩⟩
     ·replace c35 := Bool.eq_false_iff.mpr c35
      subst c35
      have H1 : (formelaw10_TreeMatchesReference.j1 kj10 l0 a2 a3 a4 false a1_0 a1_1 a1_2 a1_3 a1_4) = some r := by rw [if_neg (show ¬ (false = true) by decide)] at H; exact H
      clear H
      have H := H1
      clear H1
      have H' := Aside0.mk H
      clear H
      go_wp2
      go_meet
      case rel => exact ⟨_, (false), z9_, H', ⟨by have := HJ10.out; first | omega | exact Nat.le_refl _⟩, ⟨by (with_reducible repeat (first | refine blk_drewN ?_ _ | refine blk_drew ?_ | refine blk_alloc ?_ _)); exact BK393.out⟩, ⟨by repeat (first | (with_reducible first | exact HB.out | apply below_alloc | apply pw_below_drewN | apply below_drew1 | refine below_set ?_ GE393.out) | exact HB.out)⟩⟩
    case rest =>
     clear HC32
     try clear c1
     try clear c2
     try clear p2
     try clear c3
     try clear c8
     try clear c9
     try clear c10
     try clear c11
     try clear c12
     try clear c15
     try clear c16
     try clear c19
     try clear c19b0
     try clear c19b1
     try clear c19b2
     try clear c20
     try clear c20b0
     try clear c20b1
     try clear c21
     try clear c21b0
     try clear c21b1
     try clear c21b2
     try clear c35
     try clear c37
     try clear p2
     obtain ⟨kq, x11_31, rfl, HA, HJ31, BK393, HB⟩ := hcut
     cases kq with
     | zero => exact absurd HA.out (by simp [formelaw10_TreeMatchesReference.j1])
     | succ kj31 =>
      have H := HA.out
      clear HA
      simp only [formelaw10_TreeMatchesReference.j1] at H
      replace H := Option.bind_eq_some_iff.mp H
      obtain ⟨⟨t413, t414⟩, A420, H⟩ := H
      try dsimp only at H
      have A42 := Aside0.mk A420
      clear A420
      replace H := Option.bind_eq_some_iff.mp H
      obtain ⟨⟨t417, t418⟩, A430, H⟩ := H
      try dsimp only at H
      have A43 := Aside0.mk A430
      clear A430
      have HC44 := Aside0.mk H
      clear H
      go_upto_region 12 with (first | ((with_reducible refine gate_callee (f := 18) rfl ?_); refine goesL_ (some 90) rfl rfl Try.func18 (by kernel_rfl) rfl #[.slice A0 l0.length c0, .int .i64 a2] rfl z2_ ?_; (with_reducible refine (tree_Path.calls _ _ l0 a2 t413 t414 _ ?side1 ?side2 A42.out).mono ?_); (case side1 => exact z3_); (case side2 => exact HC0.out); rintro e w45 ⟨v415, rfl, ho0, hb⟩; refine ⟨_, rfl, ?_⟩; have n0_ := Aside0.mk (Kd.R_lower ho0 (below_size z6_)); have n1_ := Aside0.mk (blk_below (g := gb393) (o := .cells #[.int .i64 a1_0, .int .i64 a1_1, .int .i64 a1_2, .int .i64 a1_3, .string a1_4] 24 (0, 0)) z10_ hb); have n2_ := Aside0.mk (below_step z6_ hb); clear BK393; clear HB; have HO416 := n0_; have BK393 := n1_; have HB := n2_; clear n0_ n1_ n2_; (try clear hb); (try clear hb2); (try clear hk); (try clear hi); (try clear ho0)) | ((with_reducible refine gate_callee (f := 19) rfl ?_); refine goesL_ (some 96) rfl rfl Try.func19 (by kernel_rfl) rfl #[.slice A0 l0.length c0, .int .i64 a2] rfl z2_ ?_; (with_reducible refine (formeref10_Path.calls kj31 _ _ l0 a2 t417 t418 _ ?side1 ?side2 A43.out).mono ?_); (case side1 => exact z3_); (case side2 => exact HC0.out); rintro e w46 ⟨v419, rfl, ho0, hb⟩; refine ⟨_, rfl, ?_⟩; have n0_ := Aside0.mk (Kd.R_elder' (by (with_reducible repeat (first | apply Kd.R_alloc | apply Kd.R_drewN | apply Kd.R_drew)); exact HO416.out) (Kd.R_base ho0) hb); have n1_ := Aside0.mk (Kd.R_lower (Kd.R_new' ho0 (Kd.R_lt (by (with_reducible repeat (first | apply Kd.R_alloc | apply Kd.R_drewN | apply Kd.R_drew)); exact HO416.out))) (below_size z6_)); have n2_ := Aside0.mk (blk_below (g := gb393) (o := .cells #[.int .i64 a1_0, .int .i64 a1_1, .int .i64 a1_2, .int .i64 a1_3, .string a1_4] 24 (0, 0)) z10_ hb); have n3_ := Aside0.mk (below_step z6_ hb); clear HO416; clear BK393; clear HB; have HO416 := n0_; have HO420 := n1_; have BK393 := n2_; have HB := n3_; clear n0_ n1_ n2_ n3_; (try clear hb); (try clear hb2); (try clear hk); (try clear hi); (try clear ho0)))
      (try simp only [Act.put, List.setIfInBounds_toArray, List.set_cons_zero, List.set_cons_succ])
      go_cut [11] (fun v11 wc => ∃ (kq : Nat) (x11_43 : Bool), v11 = .bool x11_43 ∧ Aside0 (formelaw10_TreeMatchesReference.j2 kq l0 a2 a3 a4 x11_43 a1_0 a1_1 a1_2 a1_3 a1_4 = some r) ∧ Aside0 (kq ≤ kj31) ∧ Aside0 (wc.heap[gb393]? = some (.cells #[.int .i64 a1_0, .int .i64 a1_1, .int .i64 a1_2, .int .i64 a1_3, .string a1_4] 24 (0, 0))) ∧ Aside0 (Below w.heap.size w wc))
      case first =>
       have H := HC44.out
       clear HC44
       by_cases c47 : x11_31 = true
       ·subst c47
        have H1 : ((formeref10_SameInts.f kj31 t413 t417).bind fun t421 => (if t421 = true then (formelaw10_TreeMatchesReference.j2 kj31 l0 a2 a3 a4 (t414 == t418) a1_0 a1_1 a1_2 a1_3 a1_4) else (formelaw10_TreeMatchesReference.j2 kj31 l0 a2 a3 a4 false a1_0 a1_1 a1_2 a1_3 a1_4))) = some r := by rw [if_pos rfl] at H; exact H
        clear H
        have H := H1
        clear H1
        replace H := Option.bind_eq_some_iff.mp H
        obtain ⟨t421, A480, H⟩ := H
        try dsimp only at H
        have A48 := Aside0.mk A480
        clear A480
        by_cases c49 : t421 = true
        ·subst c49
         have H1 : (formelaw10_TreeMatchesReference.j2 kj31 l0 a2 a3 a4 (t414 == t418) a1_0 a1_1 a1_2 a1_3 a1_4) = some r := by rw [if_pos rfl] at H; exact H
         clear H
         have H := H1
         clear H1
         have H' := Aside0.mk H
         clear H
         obtain ⟨Ao50, co50, eo50⟩ := Kd.R_slice HO416.out
         subst eo50
         obtain ⟨Ao51, co51, eo51⟩ := Kd.R_slice HO420.out
         subst eo51
         go_wp2_with (first | (go_at_call 17; (with_reducible refine (formeref10_SameInts.calls kj31 _ _ t413 _ _ t417 true _ ?side1 ?side2 ?side3 ?side4 A48.out).mono ?_); (case side1 => repeat (first | exact (Kd.R_reads' HO416.out).2.2 | (with_reducible refine Kd.C_alloc ?_ _) | (with_reducible refine Kd.C_drewN ?_ _) | (with_reducible refine Kd.C_drew ?_))); (case side2 => exact (Kd.R_reads' HO416.out).2.1); (case side3 => repeat (first | exact (Kd.R_reads' HO420.out).2.2 | (with_reducible refine Kd.C_alloc ?_ _) | (with_reducible refine Kd.C_drewN ?_ _) | (with_reducible refine Kd.C_drew ?_))); (case side4 => exact (Kd.R_reads' HO420.out).2.1); rintro e w' ⟨rfl, ⟨nd, rfl⟩⟩))
         go_meet
         case rel => exact ⟨_, ((t414 == t418)), z9_, H', ⟨by have := HJ10.out; have := HJ31.out; first | omega | exact Nat.le_refl _⟩, ⟨by (with_reducible repeat (first | refine blk_drewN ?_ _ | refine blk_drew ?_ | refine blk_alloc ?_ _)); exact BK393.out⟩, ⟨by repeat (first | (with_reducible first | exact HB.out | apply below_alloc | apply pw_below_drewN | apply below_drew1 | refine below_set ?_ GE393.out) | exact HB.out)⟩⟩
        ·replace c49 := Bool.eq_false_iff.mpr c49
         subst c49
         have H1 : (formelaw10_TreeMatchesReference.j2 kj31 l0 a2 a3 a4 false a1_0 a1_1 a1_2 a1_3 a1_4) = some r := by rw [if_neg (show ¬ (false = true) by decide)] at H; exact H
         clear H
         have H := H1
         clear H1
         have H' := Aside0.mk H
         clear H
         obtain ⟨Ao52, co52, eo52⟩ := Kd.R_slice HO416.out
         subst eo52
         obtain ⟨Ao53, co53, eo53⟩ := Kd.R_slice HO420.out
         subst eo53
         go_wp2_with (first | (go_at_call 17; (with_reducible refine (formeref10_SameInts.calls kj31 _ _ t413 _ _ t417 false _ ?side1 ?side2 ?side3 ?side4 A48.out).mono ?_); (case side1 => repeat (first | exact (Kd.R_reads' HO416.out).2.2 | (with_reducible refine Kd.C_alloc ?_ _) | (with_reducible refine Kd.C_drewN ?_ _) | (with_reducible refine Kd.C_drew ?_))); (case side2 => exact (Kd.R_reads' HO416.out).2.1); (case side3 => repeat (first | exact (Kd.R_reads' HO420.out).2.2 | (with_reducible refine Kd.C_alloc ?_ _) | (with_reducible refine Kd.C_drewN ?_ _) | (with_reducible refine Kd.C_drew ?_))); (case side4 => exact (Kd.R_reads' HO420.out).2.1); rintro e w' ⟨rfl, ⟨nd, rfl⟩⟩))
         go_meet
         case rel => exact ⟨_, (false), z9_, H', ⟨by have := HJ10.out; have := HJ31.out; first | omega | exact Nat.le_refl _⟩, ⟨by (with_reducible repeat (first | refine blk_drewN ?_ _ | refine blk_drew ?_ | refine blk_alloc ?_ _)); exact BK393.out⟩, ⟨by repeat (first | (with_reducible first | exact HB.out | apply below_alloc | apply pw_below_drewN | apply below_drew1 | refine below_set ?_ GE393.out) | exact HB.out)⟩⟩
       ·replace c47 := Bool.eq_false_iff.mpr c47
        subst c47
        have H1 : (formelaw10_TreeMatchesReference.j2 kj31 l0 a2 a3 a4 false a1_0 a1_1 a1_2 a1_3 a1_4) = some r := by rw [if_neg (show ¬ (false = true) by decide)] at H; exact H
        clear H
        have H := H1
        clear H1
        have H' := Aside0.mk H
        clear H
        go_wp2
        go_meet
        case rel => exact ⟨_, (false), z9_, H', ⟨by have := HJ10.out; have := HJ31.out; first | omega | exact Nat.le_refl _⟩, ⟨by (with_reducible repeat (first | refine blk_drewN ?_ _ | refine blk_drew ?_ | refine blk_alloc ?_ _)); exact BK393.out⟩, ⟨by repeat (first | (with_reducible first | exact HB.out | apply below_alloc | apply pw_below_drewN | apply below_drew1 | refine below_set ?_ GE393.out) | exact HB.out)⟩⟩
      case rest =>
       clear HC44
       try clear c1
       try clear c2
       try clear p2
       try clear c3
       try clear c4
       try clear c8
       try clear c9
       try clear c10
       try clear c11
       try clear c12
       try clear c15
       try clear c16
       try clear c18
       try clear c19
       try clear c19b0
       try clear c19b1
       try clear c19b2
       try clear c20
       try clear c20b0
       try clear c20b1
       try clear c21
       try clear c21b0
       try clear c21b1
       try clear c21b2
       try clear c35
       try clear c37
       try clear c47
       try clear c49
       try clear p2
       obtain ⟨kq, x11_43, rfl, HA, HJ43, BK393, HB⟩ := hcut
       cases kq with
       | zero => exact absurd HA.out (by simp [formelaw10_TreeMatchesReference.j2])
       | succ kj43 =>
        have H := HA.out
        clear HA
        simp only [formelaw10_TreeMatchesReference.j2] at H
        replace H := Option.bind_eq_some_iff.mp H
        obtain ⟨⟨t422, t425⟩, A540, H⟩ := H
        try dsimp only at H
        have A54 := Aside0.mk A540
        clear A540
        replace H := Option.bind_eq_some_iff.mp H
        obtain ⟨⟨t426, t429⟩, A550, H⟩ := H
        try dsimp only at H
        have A55 := Aside0.mk A550
        clear A550
        have HC56 := Aside0.mk H
        clear H
        have hcz57_0 : wc.cell? ⟨gb393, 0, none⟩ = some (.int .i64 a1_0) := (blk_cell BK393.out 0).trans rfl
        have hcz57_1 : wc.cell? ⟨gb393, 1, none⟩ = some (.int .i64 a1_1) := (blk_cell BK393.out 1).trans rfl
        have hcz57_2 : wc.cell? ⟨gb393, 2, none⟩ = some (.int .i64 a1_2) := (blk_cell BK393.out 2).trans rfl
        have hcz57_3 : wc.cell? ⟨gb393, 3, none⟩ = some (.int .i64 a1_3) := (blk_cell BK393.out 3).trans rfl
        have hcz57_4 : wc.cell? ⟨gb393, 4, none⟩ = some (.string a1_4) := (blk_cell BK393.out 4).trans rfl
        have hfz57_0 := blk_frozen BK393.out 0
        have hfz57_1 := blk_frozen BK393.out 1
        have hfz57_2 := blk_frozen BK393.out 2
        have hfz57_3 := blk_frozen BK393.out 3
        have hfz57_4 := blk_frozen BK393.out 4
        go_upto_region 15 with (first | ((with_reducible refine gate_callee (f := 20) rfl ?_); refine goesL_ (some 114) rfl rfl Try.func20 (by kernel_rfl) rfl #[.slice A0 l0.length c0, .agg #[.int .i64 a1_0, .int .i64 a1_1, .int .i64 a1_2, .int .i64 a1_3, .string a1_4], .int .i64 a4] rfl z2_ ?_; (with_reducible refine (tree_Insert.calls _ _ l0 a1_0 a1_1 a1_2 a1_3 a1_4 a4 t422 t425 _ ?side1 ?side2 A54.out).mono ?_); (case side1 => exact z3_); (case side2 => exact HC0.out); rintro e w58 ⟨v423, rfl, ho0, hb⟩; refine ⟨_, rfl, ?_⟩; have n0_ := Aside0.mk (Kd.R_lower (Kd.R_newB ho0 (g := gb393) (o := .cells #[.int .i64 a1_0, .int .i64 a1_1, .int .i64 a1_2, .int .i64 a1_3, .string a1_4] 24 (0, 0)) z10_) (below_size z6_)); have n1_ := Aside0.mk (blk_below (g := gb393) (o := .cells #[.int .i64 a1_0, .int .i64 a1_1, .int .i64 a1_2, .int .i64 a1_3, .string a1_4] 24 (0, 0)) z10_ hb); have n2_ := Aside0.mk (below_step z6_ hb); clear BK393; clear HB; have HO424 := n0_; have BK393 := n1_; have HB := n2_; clear n0_ n1_ n2_; (try clear hb); (try clear hb2); (try clear hk); (try clear hi); (try clear ho0); have hcz59_0 : w58.cell? ⟨gb393, 0, none⟩ = some (.int .i64 a1_0) := (blk_cell BK393.out 0).trans rfl; have hcz59_1 : w58.cell? ⟨gb393, 1, none⟩ = some (.int .i64 a1_1) := (blk_cell BK393.out 1).trans rfl; have hcz59_2 : w58.cell? ⟨gb393, 2, none⟩ = some (.int .i64 a1_2) := (blk_cell BK393.out 2).trans rfl; have hcz59_3 : w58.cell? ⟨gb393, 3, none⟩ = some (.int .i64 a1_3) := (blk_cell BK393.out 3).trans rfl; have hcz59_4 : w58.cell? ⟨gb393, 4, none⟩ = some (.string a1_4) := (blk_cell BK393.out 4).trans rfl; have hfz59_0 := blk_frozen BK393.out 0; have hfz59_1 := blk_frozen BK393.out 1; have hfz59_2 := blk_frozen BK393.out 2; have hfz59_3 := blk_frozen BK393.out 3; have hfz59_4 := blk_frozen BK393.out 4) | ((with_reducible refine gate_callee (f := 21) rfl ?_); refine goesL_ (some 121) rfl rfl Try.func21 (by kernel_rfl) rfl #[.slice A0 l0.length c0, .agg #[.int .i64 a1_0, .int .i64 a1_1, .int .i64 a1_2, .int .i64 a1_3, .string a1_4], .int .i64 a4] rfl z2_ ?_; (with_reducible refine (formeref10_Insert.calls kj43 _ _ l0 a1_0 a1_1 a1_2 a1_3 a1_4 a4 t426 t429 _ ?side1 ?side2 A55.out).mono ?_); (case side1 => exact z3_); (case side2 => exact HC0.out); rintro e w60 ⟨v427, rfl, ho0, hb⟩; refine ⟨_, rfl, ?_⟩; have n0_ := Aside0.mk (Kd.R_elder' (by (with_reducible repeat (first | apply Kd.R_alloc | apply Kd.R_drewN | apply Kd.R_drew)); exact HO424.out) (Kd.R_base ho0) hb); have n1_ := Aside0.mk (Kd.R_lower (Kd.R_newB (Kd.R_new' ho0 (Kd.R_lt (by (with_reducible repeat (first | apply Kd.R_alloc | apply Kd.R_drewN | apply Kd.R_drew)); exact HO424.out))) (g := gb393) (o := .cells #[.int .i64 a1_0, .int .i64 a1_1, .int .i64 a1_2, .int .i64 a1_3, .string a1_4] 24 (0, 0)) z10_) (below_size z6_)); have n2_ := Aside0.mk (blk_below (g := gb393) (o := .cells #[.int .i64 a1_0, .int .i64 a1_1, .int .i64 a1_2, .int .i64 a1_3, .string a1_4] 24 (0, 0)) z10_ hb); have n3_ := Aside0.mk (below_step z6_ hb); clear HO424; clear BK393; clear HB; have HO424 := n0_; have HO428 := n1_; have BK393 := n2_; have HB := n3_; clear n0_ n1_ n2_ n3_; (try clear hb); (try clear hb2); (try clear hk); (try clear hi); (try clear ho0)))
        (try simp only [Act.put, List.setIfInBounds_toArray, List.set_cons_zero, List.set_cons_succ])
        go_cut [11] (fun v11 wc => ∃ (kq : Nat) (x11_55 : Bool), v11 = .bool x11_55 ∧ Aside0 (formelaw10_TreeMatchesReference.j3 kq l0 a2 a3 a4 x11_55 = some r) ∧ Aside0 (kq ≤ kj43) ∧ Aside0 (wc.heap[gb393]? = some (.cells #[.int .i64 a1_0, .int .i64 a1_1, .int .i64 a1_2, .int .i64 a1_3, .string a1_4] 24 (0, 0))) ∧ Aside0 (Below w.heap.size w wc))
        case first =>
         have H := HC56.out
         clear HC56
         by_cases c61 : x11_43 = true
         ·subst c61
          have H1 : ((formeref10_Same.f kj43 t422 t426).bind fun t430 => (if t430 = true then (formelaw10_TreeMatchesReference.j3 kj43 l0 a2 a3 a4 (t425 == t429)) else (formelaw10_TreeMatchesReference.j3 kj43 l0 a2 a3 a4 false))) = some r := by rw [if_pos rfl] at H; exact H
          clear H
          have H := H1
          clear H1
          replace H := Option.bind_eq_some_iff.mp H
          obtain ⟨t430, A620, H⟩ := H
          try dsimp only at H
          have A62 := Aside0.mk A620
          clear A620
          by_cases c63 : t430 = true
          ·subst c63
           have H1 : (formelaw10_TreeMatchesReference.j3 kj43 l0 a2 a3 a4 (t425 == t429)) = some r := by rw [if_pos rfl] at H; exact H
           clear H
           have H := H1
           clear H1
           have H' := Aside0.mk H
           clear H
           obtain ⟨Ao64, co64, eo64⟩ := Kd.R_slice HO424.out
           subst eo64
           obtain ⟨Ao65, co65, eo65⟩ := Kd.R_slice HO428.out
           subst eo65
           go_wp2_with (first | (go_at_call 22; (with_reducible refine (formeref10_Same.calls kj43 _ _ t422 _ _ t426 true _ ?side1 ?side2 ?side3 ?side4 A62.out).mono ?_); (case side1 => repeat (first | exact (Kd.R_reads' HO424.out).2.2 | (with_reducible refine Kd.C_alloc ?_ _) | (with_reducible refine Kd.C_drewN ?_ _) | (with_reducible refine Kd.C_drew ?_))); (case side2 => exact (Kd.R_reads' HO424.out).2.1); (case side3 => repeat (first | exact (Kd.R_reads' HO428.out).2.2 | (with_reducible refine Kd.C_alloc ?_ _) | (with_reducible refine Kd.C_drewN ?_ _) | (with_reducible refine Kd.C_drew ?_))); (case side4 => exact (Kd.R_reads' HO428.out).2.1); rintro e w' ⟨rfl, ⟨nd, rfl⟩⟩))
           go_meet
           case rel => exact ⟨_, ((t425 == t429)), z9_, H', ⟨by have := HJ10.out; have := HJ31.out; have := HJ43.out; first | omega | exact Nat.le_refl _⟩, ⟨by (with_reducible repeat (first | refine blk_drewN ?_ _ | refine blk_drew ?_ | refine blk_alloc ?_ _)); exact BK393.out⟩, ⟨by repeat (first | (with_reducible first | exact HB.out | apply below_alloc | apply pw_below_drewN | apply below_drew1 | refine below_set ?_ GE393.out) | exact HB.out)⟩⟩
          ·replace c63 := Bool.eq_false_iff.mpr c63
           subst c63
           have H1 : (formelaw10_TreeMatchesReference.j3 kj43 l0 a2 a3 a4 false) = some r := by rw [if_neg (show ¬ (false = true) by decide)] at H; exact H
           clear H
           have H := H1
           clear H1
           have H' := Aside0.mk H
           clear H
           obtain ⟨Ao66, co66, eo66⟩ := Kd.R_slice HO424.out
           subst eo66
           obtain ⟨Ao67, co67, eo67⟩ := Kd.R_slice HO428.out
           subst eo67
           go_wp2_with (first | (go_at_call 22; (with_reducible refine (formeref10_Same.calls kj43 _ _ t422 _ _ t426 false _ ?side1 ?side2 ?side3 ?side4 A62.out).mono ?_); (case side1 => repeat (first | exact (Kd.R_reads' HO424.out).2.2 | (with_reducible refine Kd.C_alloc ?_ _) | (with_reducible refine Kd.C_drewN ?_ _) | (with_reducible refine Kd.C_drew ?_))); (case side2 => exact (Kd.R_reads' HO424.out).2.1); (case side3 => repeat (first | exact (Kd.R_reads' HO428.out).2.2 | (with_reducible refine Kd.C_alloc ?_ _) | (with_reducible refine Kd.C_drewN ?_ _) | (with_reducible refine Kd.C_drew ?_))); (case side4 => exact (Kd.R_reads' HO428.out).2.1); rintro e w' ⟨rfl, ⟨nd, rfl⟩⟩))
           go_meet
           case rel => exact ⟨_, (false), z9_, H', ⟨by have := HJ10.out; have := HJ31.out; have := HJ43.out; first | omega | exact Nat.le_refl _⟩, ⟨by (with_reducible repeat (first | refine blk_drewN ?_ _ | refine blk_drew ?_ | refine blk_alloc ?_ _)); exact BK393.out⟩, ⟨by repeat (first | (with_reducible first | exact HB.out | apply below_alloc | apply pw_below_drewN | apply below_drew1 | refine below_set ?_ GE393.out) | exact HB.out)⟩⟩
         ·replace c61 := Bool.eq_false_iff.mpr c61
          subst c61
          have H1 : (formelaw10_TreeMatchesReference.j3 kj43 l0 a2 a3 a4 false) = some r := by rw [if_neg (show ¬ (false = true) by decide)] at H; exact H
          clear H
          have H := H1
          clear H1
          have H' := Aside0.mk H
          clear H
          go_wp2
          go_meet
          case rel => exact ⟨_, (false), z9_, H', ⟨by have := HJ10.out; have := HJ31.out; have := HJ43.out; first | omega | exact Nat.le_refl _⟩, ⟨by (with_reducible repeat (first | refine blk_drewN ?_ _ | refine blk_drew ?_ | refine blk_alloc ?_ _)); exact BK393.out⟩, ⟨by repeat (first | (with_reducible first | exact HB.out | apply below_alloc | apply pw_below_drewN | apply below_drew1 | refine below_set ?_ GE393.out) | exact HB.out)⟩⟩
        case rest =>
         clear HC56
         try clear c1
         try clear c2
         try clear p2
         try clear c3
         try clear c4
         try clear c6
         try clear c8
         try clear c9
         try clear c10
         try clear c11
         try clear c12
         try clear c15
         try clear c16
         try clear c18
         try clear c19
         try clear c19b0
         try clear c19b1
         try clear c19b2
         try clear c20
         try clear c20b0
         try clear c20b1
         try clear c21
         try clear c21b0
         try clear c21b1
         try clear c21b2
         try clear c35
         try clear c37
         try clear c47
         try clear c49
         try clear c61
         try clear c63
         try clear hcz57_0
         try clear hcz57_1
         try clear hcz57_2
         try clear hcz57_3
         try clear hcz57_4
         try clear hcz59_0
         try clear hcz59_1
         try clear hcz59_2
         try clear hcz59_3
         try clear hcz59_4
         try clear hfz57_0
         try clear hfz57_1
         try clear hfz57_2
         try clear hfz57_3
         try clear hfz57_4
         try clear hfz59_0
         try clear hfz59_1
         try clear hfz59_2
         try clear hfz59_3
         try clear hfz59_4
         try clear p2
         obtain ⟨kq, x11_55, rfl, HA, HJ55, BK393, HB⟩ := hcut
         cases kq with
         | zero => exact absurd HA.out (by simp [formelaw10_TreeMatchesReference.j3])
         | succ kj55 =>
          have H := HA.out
          clear HA
          simp only [formelaw10_TreeMatchesReference.j3] at H
          replace H := Option.bind_eq_some_iff.mp H
          obtain ⟨⟨t431, t432⟩, A680, H⟩ := H
          try dsimp only at H
          have A68 := Aside0.mk A680
          clear A680
          replace H := Option.bind_eq_some_iff.mp H
          obtain ⟨⟨t435, t436⟩, A690, H⟩ := H
          try dsimp only at H
          have A69 := Aside0.mk A690
          clear A690
          by_cases c70 : x11_55 = true
          ·subst c70
           have H1 : ((formeref10_Same.f kj55 t431 t435).bind fun t439 => (if t439 = true then ((tree_Move.f l0 a2 a3 a4).bind fun bt440 => ((formeref10_Move.f kj55 l0 a2 a3 a4).bind fun bt444 => (if t432 = t436 then ((formeref10_Same.f kj55 bt440.1 bt444.1).bind fun t448 => (if t448 = true then (some (bt440.2 == bt444.2)) else (none))) else (none)))) else ((tree_Move.f l0 a2 a3 a4).bind fun bt449 => ((formeref10_Move.f kj55 l0 a2 a3 a4).bind fun bt453 => (none))))) = some r := by rw [if_pos rfl] at H; exact H
           clear H
           have H := H1
           clear H1
           replace H := Option.bind_eq_some_iff.mp H
           obtain ⟨t439, A710, H⟩ := H
           try dsimp only at H
           have A71 := Aside0.mk A710
           clear A710
           by_cases c72 : t439 = true
           ·subst c72
            have H1 : ((tree_Move.f l0 a2 a3 a4).bind fun bt440 => ((formeref10_Move.f kj55 l0 a2 a3 a4).bind fun bt444 => (if t432 = t436 then ((formeref10_Same.f kj55 bt440.1 bt444.1).bind fun t448 => (if t448 = true then (some (bt440.2 == bt444.2)) else (none))) else (none)))) = some r := by rw [if_pos rfl] at H; exact H
            clear H
            have H := H1
            clear H1
            replace H := Option.bind_eq_some_iff.mp H
            obtain ⟨⟨t440, t441⟩, A730, H⟩ := H
            try dsimp only at H
            have A73 := Aside0.mk A730
            clear A730
            replace H := Option.bind_eq_some_iff.mp H
            obtain ⟨⟨t444, t445⟩, A740, H⟩ := H
            try dsimp only at H
            have A74 := Aside0.mk A740
            clear A740
            by_cases c75 : t432 = t436
            rotate_left
            ·rw [if_neg c75] at H; exact absurd H (by simp)
            rw [if_pos c75] at H
            have c75b0 : (t432 == t436) = true := beq_iff_eq.mpr c75
            have c75b1 : (t432 != t436) = false := bne_eq_false_iff_eq.mpr c75
            clear c75
            replace H := Option.bind_eq_some_iff.mp H
            obtain ⟨t448, A760, H⟩ := H
            try dsimp only at H
            have A76 := Aside0.mk A760
            clear A760
            by_cases c77 : t448 = true
            ·subst c77
             have H1 : (some (t441 == t445)) = some r := by rw [if_pos rfl] at H; exact H
             clear H
             have H := H1
             clear H1
             obtain rfl := Option.some.inj H
             go_wp2_with (first | ((with_reducible refine gate_callee (f := 23) rfl ?_); refine goesL_ (some 138) rfl rfl Try.func23 (by kernel_rfl) rfl #[.slice A0 l0.length c0, .int .i64 a2] rfl z2_ ?_; (with_reducible refine (tree_Remove.calls _ _ l0 a2 t431 t432 _ ?side1 ?side2 A68.out).mono ?_); (case side1 => exact z3_); (case side2 => exact HC0.out); rintro e w78 ⟨v433, rfl, ho0, hb⟩; refine ⟨_, rfl, ?_⟩; have n0_ := Aside0.mk (Kd.R_lower (Kd.R_newB ho0 (g := gb393) (o := .cells #[.int .i64 a1_0, .int .i64 a1_1, .int .i64 a1_2, .int .i64 a1_3, .string a1_4] 24 (0, 0)) z10_) (below_size z6_)); have n1_ := Aside0.mk (blk_below (g := gb393) (o := .cells #[.int .i64 a1_0, .int .i64 a1_1, .int .i64 a1_2, .int .i64 a1_3, .string a1_4] 24 (0, 0)) z10_ hb); have n2_ := Aside0.mk (below_step z6_ hb); clear BK393; clear HB; have HO434 := n0_; have BK393 := n1_; have HB := n2_; clear n0_ n1_ n2_; (try clear hb); (try clear hb2); (try clear hk); (try clear hi); (try clear ho0)) | ((with_reducible refine gate_callee (f := 24) rfl ?_); refine goesL_ (some 144) rfl rfl Try.func24 (by kernel_rfl) rfl #[.slice A0 l0.length c0, .int .i64 a2] rfl z2_ ?_; (with_reducible refine (formeref10_Remove.calls kj55 _ _ l0 a2 t435 t436 _ ?side1 ?side2 A69.out).mono ?_); (case side1 => exact z3_); (case side2 => exact HC0.out); rintro e w79 ⟨v437, rfl, ho0, hb⟩; refine ⟨_, rfl, ?_⟩; have n0_ := Aside0.mk (Kd.R_elder' z50_ (Kd.R_base ho0) hb); have n1_ := Aside0.mk (Kd.R_lower (Kd.R_newB (Kd.R_new' ho0 (Kd.R_lt z50_)) (g := gb393) (o := .cells #[.int .i64 a1_0, .int .i64 a1_1, .int .i64 a1_2, .int .i64 a1_3, .string a1_4] 24 (0, 0)) z10_) (below_size z6_)); have n2_ := Aside0.mk (blk_below (g := gb393) (o := .cells #[.int .i64 a1_0, .int .i64 a1_1, .int .i64 a1_2, .int .i64 a1_3, .string a1_4] 24 (0, 0)) z10_ hb); have n3_ := Aside0.mk (below_step z6_ hb); clear HO434; clear BK393; clear HB; have HO434 := n0_; have HO438 := n1_; have BK393 := n2_; have HB := n3_; clear n0_ n1_ n2_ n3_; (try clear hb); (try clear hb2); (try clear hk); (try clear hi); (try clear ho0); obtain ⟨Ao80, co80, eo80⟩ := Kd.R_slice HO434.out; subst eo80; obtain ⟨Ao81, co81, eo81⟩ := Kd.R_slice HO438.out; subst eo81) | (go_at_call 22; (with_reducible refine (formeref10_Same.calls kj55 _ _ t431 _ _ t435 true _ ?side1 ?side2 ?side3 ?side4 A71.out).mono ?_); (case side1 => repeat (first | exact (Kd.R_reads' HO434.out).2.2 | (with_reducible refine Kd.C_alloc ?_ _) | (with_reducible refine Kd.C_drewN ?_ _) | (with_reducible refine Kd.C_drew ?_))); (case side2 => exact (Kd.R_reads' HO434.out).2.1); (case side3 => repeat (first | exact (Kd.R_reads' HO438.out).2.2 | (with_reducible refine Kd.C_alloc ?_ _) | (with_reducible refine Kd.C_drewN ?_ _) | (with_reducible refine Kd.C_drew ?_))); (case side4 => exact (Kd.R_reads' HO438.out).2.1); rintro e w' ⟨rfl, ⟨nd, rfl⟩⟩) | ((with_reducible refine gate_callee (f := 25) rfl ?_); refine goesL_ (some 163) rfl rfl Try.func25 (by kernel_rfl) rfl #[.slice A0 l0.length c0, .int .i64 a2, .int .i64 a3, .int .i64 a4] rfl z2_ ?_; (with_reducible refine (tree_Move.calls _ _ l0 a2 a3 a4 t440 t441 _ ?side1 ?side2 A73.out).mono ?_); (case side1 => repeat (first | exact (Kd.C_below HR0.out z6_) | (with_reducible refine Kd.C_alloc ?_ _) | (with_reducible refine Kd.C_drewN ?_ _) | (with_reducible refine Kd.C_drew ?_))); (case side2 => exact HC0.out); rintro e w82 ⟨v442, rfl, ho0, hb⟩; refine ⟨_, rfl, ?_⟩; have n0_ := Aside0.mk (Kd.R_elder' z50_ (Kd.R_base ho0) hb); have n1_ := Aside0.mk (Kd.R_elder' z59_ (Kd.R_base ho0) hb); have n2_ := Aside0.mk (Kd.R_lower (Kd.R_newB (Kd.R_new' (Kd.R_new' ho0 (Kd.R_lt z50_)) (Kd.R_lt z59_)) (g := gb393) (o := .cells #[.int .i64 a1_0, .int .i64 a1_1, .int .i64 a1_2, .int .i64 a1_3, .string a1_4] 24 (0, 0)) z10_) (below_size z6_)); have n3_ := Aside0.mk (blk_below (g := gb393) (o := .cells #[.int .i64 a1_0, .int .i64 a1_1, .int .i64 a1_2, .int .i64 a1_3, .string a1_4] 24 (0, 0)) z10_ hb); have n4_ := Aside0.mk (below_step z6_ hb); clear HO434; clear HO438; clear BK393; clear HB; have HO434 := n0_; have HO438 := n1_; have HO443 := n2_; have BK393 := n3_; have HB := n4_; clear n0_ n1_ n2_ n3_ n4_; (try clear hb); (try clear hb2); (try clear hk); (try clear hi); (try clear ho0)) | ((with_reducible refine gate_callee (f := 26) rfl ?_); refine goesL_ (some 171) rfl rfl Try.func26 (by kernel_rfl) rfl #[.slice A0 l0.length c0, .int .i64 a2, .int .i64 a3, .int .i64 a4] rfl z2_ ?_; (with_reducible refine (formeref10_Move.calls kj55 _ _ l0 a2 a3 a4 t444 t445 _ ?side1 ?side2 A74.out).mono ?_); (case side1 => exact z3_); (case side2 => exact HC0.out); rintro e w83 ⟨v446, rfl, ho0, hb⟩; refine ⟨_, rfl, ?_⟩; have n0_ := Aside0.mk (Kd.R_elder' z50_ (Kd.R_base ho0) hb); have n1_ := Aside0.mk (Kd.R_elder' z59_ (Kd.R_base ho0) hb); have n2_ := Aside0.mk (Kd.R_elder' (by (with_reducible repeat (first | apply Kd.R_alloc | apply Kd.R_drewN | apply Kd.R_drew)); exact HO443.out) (Kd.R_base ho0) hb); have n3_ := Aside0.mk (Kd.R_lower (Kd.R_newB (Kd.R_new' (Kd.R_new' (Kd.R_new' ho0 (Kd.R_lt z50_)) (Kd.R_lt z59_)) (Kd.R_lt (by (with_reducible repeat (first | apply Kd.R_alloc | apply Kd.R_drewN | apply Kd.R_drew)); exact HO443.out))) (g := gb393) (o := .cells #[.int .i64 a1_0, .int .i64 a1_1, .int .i64 a1_2, .int .i64 a1_3, .string a1_4] 24 (0, 0)) z10_) (below_size z6_)); have n4_ := Aside0.mk (blk_below (g := gb393) (o := .cells #[.int .i64 a1_0, .int .i64 a1_1, .int .i64 a1_2, .int .i64 a1_3, .string a1_4] 24 (0, 0)) z10_ hb); have n5_ := Aside0.mk (below_step z6_ hb); clear HO434; clear HO438; clear HO443; clear BK393; clear HB; have HO434 := n0_; have HO438 := n1_; have HO443 := n2_; have HO447 := n3_; have BK393 := n4_; have HB := n5_; clear n0_ n1_ n2_ n3_ n4_ n5_; (try clear hb); (try clear hb2); (try clear hk); (try clear hi); (try clear ho0); obtain ⟨Ao84, co84, eo84⟩ := Kd.R_slice HO443.out; subst eo84; obtain ⟨Ao85, co85, eo85⟩ := Kd.R_slice HO447.out; subst eo85) | (go_at_call 22; (with_reducible refine (formeref10_Same.calls kj55 _ _ t440 _ _ t444 true _ ?side1 ?side2 ?side3 ?side4 A76.out).mono ?_); (case side1 => repeat (first | exact (Kd.R_reads' HO443.out).2.2 | (with_reducible refine Kd.C_alloc ?_ _) | (with_reducible refine Kd.C_drewN ?_ _) | (with_reducible refine Kd.C_drew ?_))); (case side2 => exact (Kd.R_reads' HO443.out).2.1); (case side3 => repeat (first | exact (Kd.R_reads' HO447.out).2.2 | (with_reducible refine Kd.C_alloc ?_ _) | (with_reducible refine Kd.C_drewN ?_ _) | (with_reducible refine Kd.C_drew ?_))); (case side4 => exact (Kd.R_reads' HO447.out).2.1); rintro e w' ⟨rfl, ⟨nd, rfl⟩⟩))
             go_ret
             exact ⟨by first | rfl | (simp [errW_none, errW_some] <;> rfl) | (simp [*, errW_none, errW_some] <;> rfl), by repeat (first | (with_reducible first | exact HB.out | apply below_alloc | apply pw_below_drewN | apply below_drew1 | refine below_set ?_ GE393.out) | exact HB.out)⟩
            ·replace c77 := Bool.eq_false_iff.mpr c77
             subst c77
             have H1 : (none) = some r := by rw [if_neg (show ¬ (false = true) by decide)] at H; exact H
             clear H
             have H := H1
             clear H1
             exact absurd H (by simp)
           ·replace c72 := Bool.eq_false_iff.mpr c72
            subst c72
            have H1 : ((tree_Move.f l0 a2 a3 a4).bind fun bt449 => ((formeref10_Move.f kj55 l0 a2 a3 a4).bind fun bt453 => (none))) = some r := by rw [if_neg (show ¬ (false = true) by decide)] at H; exact H
            clear H
            have H := H1
            clear H1
            replace H := Option.bind_eq_some_iff.mp H
            obtain ⟨⟨t449, t450⟩, A860, H⟩ := H
            try dsimp only at H
            have A86 := Aside0.mk A860
            clear A860
            replace H := Option.bind_eq_some_iff.mp H
            obtain ⟨⟨t453, t454⟩, A870, H⟩ := H
            try dsimp only at H
            have A87 := Aside0.mk A870
            clear A870
            exact absurd H (by simp)
          ·replace c70 := Bool.eq_false_iff.mpr c70
           subst c70
           have H1 : ((tree_Move.f l0 a2 a3 a4).bind fun bt457 => ((formeref10_Move.f kj55 l0 a2 a3 a4).bind fun bt461 => (none))) = some r := by rw [if_neg (show ¬ (false = true) by decide)] at H; exact H
           clear H
           have H := H1
           clear H1
           replace H := Option.bind_eq_some_iff.mp H
           obtain ⟨⟨t457, t458⟩, A880, H⟩ := H
           try dsimp only at H
           have A88 := Aside0.mk A880
           clear A880
           replace H := Option.bind_eq_some_iff.mp H
           obtain ⟨⟨t461, t462⟩, A890, H⟩ := H
           try dsimp only at H
           have A89 := Aside0.mk A890
           clear A890
           exact absurd H (by simp)
 ·replace c8 := Bool.eq_false_iff.mpr c8
  subst c8
  have H1 : (some t394) = some r := by rw [if_neg (show ¬ (false = true) by decide)] at H; exact H
  clear H
  have H := H1
  clear H1
  obtain rfl := Option.some.inj H
  go_enter Try.func3, Try.ntmps3
  go_wp2_with (first | ((with_reducible refine gate_dst (N := 6) rfl ?_); refine box_event ?hg (N := 6) ?hd (cs := #[.int .i64 a1_0, .int .i64 a1_1, .int .i64 a1_2, .int .i64 a1_3, .string a1_4]) (t := 24) ?hr ?_; (case hd => rfl); (case hg => rfl); (case hr => exact z13_); intro gb393 hg w90 hbox hb; have n0_ := Aside0.mk (below_step z1_ hb); have n1_ := Aside0.mk (hbox); have n2_ := Aside0.mk ((by rw [hg]; exact (below_size z1_) : w.heap.size ≤ gb393)); have n3_ := Aside0.mk ((by rw [hg]; exact (below_size z1_) : w.heap.size ≤ gb393)); clear HB; have HB := n0_; have BK393 := n1_; have GW393 := n2_; have GE393 := n3_; clear n0_ n1_ n2_ n3_; clear hb hbox hg) | ((with_reducible refine gate_callee (f := 9) rfl ?_); refine goesL_ (some 22) rfl rfl Try.func9 (by kernel_rfl) rfl #[] rfl z2_ ?_; (with_reducible refine (formelaw10_head.calls k  t394 _ A6.out).mono ?_); rintro e w91 ⟨rfl, hb⟩; refine ⟨_, rfl, ?_⟩; have n0_ := Aside0.mk (blk_below (g := gb393) (o := .cells #[.int .i64 a1_0, .int .i64 a1_1, .int .i64 a1_2, .int .i64 a1_3, .string a1_4] 24 (0, 0)) z10_ hb); have n1_ := Aside0.mk (below_step z6_ hb); clear BK393; clear HB; have BK393 := n0_; have HB := n1_; clear n0_ n1_; (try clear hb); (try clear hb2); (try clear hk); (try clear hi)) | ((with_reducible refine gate_callee (f := 10) rfl ?_); refine goesL_ (some 24) rfl rfl Try.func10 (by kernel_rfl) rfl #[.slice A0 l0.length c0] rfl z2_ ?_; (with_reducible refine (formelaw10_few.calls _ _ l0 false _ ?side1 ?side2 A7.out).mono ?_); (case side1 => exact z3_); (case side2 => exact HC0.out); rintro e w' ⟨rfl, ⟨nd, rfl⟩⟩; refine ⟨_, rfl, ?_⟩))
  go_ret
  exact ⟨by first | rfl | (simp [errW_none, errW_some] <;> rfl) | (simp [*, errW_none, errW_some] <;> rfl), by repeat (first | (with_reducible first | exact HB.out | apply below_alloc | apply pw_below_drewN | apply below_drew1 | refine below_set ?_ GE393.out) | exact HB.out)⟩
end Go.Proofs.Ytpafhhgoldenoaa.P
end
section
namespace Go.Proofs.Ytpafhhgoldenoaa.P
open Go.RowKit Go.Proofs.YtpafhhgoldenoaaW.PrintWords Go.Proofs.YtpafhhgoldenoaaW.PrintLast Go.Proofs.YtpafhhgoldenoaaW.PrintMore
open Go.Proofs.Ytpafhhgoldenoaa.XM
set_option linter.unusedVariables false
set_option linter.unusedSimpArgs false
theorem kidsR_len (l : List S24) (a : Int) : (kidsR l a).1.length ≤ l.length := by
 have := kidsL_len l a
 unfold kidsR
 repeat' split
 all_goals simp
 exact this
theorem pathR_len (l : List S24) (a : Int) : (pathR l a).1.length ≤ 1000000 := by
 unfold pathR
 by_cases h0 : (findP l a).2.2 = 0
 ·obtain ⟨D, ds, hD, T, P, ha⟩ := find_len h0
  by_cases hf : (findP l a).2.1 = true
  ·obtain ⟨j, hj, e, hi⟩ := find_found hD T P ha hf
   have := (path_all T j hj).1
   have := T.le30 j hj
   simp only [h0, hf, if_true, hi, Int.toNat_natCast]
   omega
  ·simp [h0, hf]
 ·simp [h0]
theorem removeR_len (l : List S24) (a : Int) : (removeR l a).1.length ≤ l.length := by
 have := splitP_len l a
 unfold removeR
 repeat' split
 all_goals simp
 omega
theorem matches_pure (l : List S24) (n : S24) (id par b : Int) (hs : ∀ j, j < l.length → (nd l j).f4.size ≤ 9223372036854775807) (hn : n.f4.size ≤ 9223372036854775807) (_ : -9223372036854775808 ≤ id ∧ id ≤ 9223372036854775807) (_ : -9223372036854775808 ≤ par ∧ par ≤ 9223372036854775807) (_ : -9223372036854775808 ≤ b ∧ b ≤ 9223372036854775807) :
  ∃ k, formelaw10_TreeMatchesReference.f k l n.f0 n.f1 n.f2 n.f3 n.f4 id par b = some true := by
 refine Ev.rounds (g := fun k => formelaw10_TreeMatchesReference.f k l n.f0 n.f1 n.f2 n.f3 n.f4 id par b) ?_
 unfold formelaw10_TreeMatchesReference.f formelaw10_few.f
 simp only [Option.bind_some]
 refine Ev.bind head_true ?_
 by_cases hl : l.length ≤ 60
 ·obtain ⟨vi, i1, i2, i3⟩ := refInsert l hs n hn b
  obtain ⟨vm, m1, m2, m3⟩ := refMove l hs id par b
  have k1 := kidsR_len l id
  have p1 := pathR_len l id
  have r1 := removeR_len l id
  refine Ev.thn (by simp; omega) (Ev.obind (show tree_Find.f l id = some (findP l id) from rfl) (Ev.bind (refFind l hs id) (Ev.thn rfl (Ev.obind (show tree_Valid.f l = some (placesP l).isSome from rfl) (Ev.bind (refValid l hs) ?_)))))
  refine Ev.thn (by simp) (Ev.thn rfl (Ev.thn (by simp) ?_))
  refine Ev.up ?_
  simp only [formelaw10_TreeMatchesReference.j0]
  refine Ev.bind (Kids_ev l id) (Ev.bind (refKids l hs id) (Ev.thn (by simp) (Ev.bind (refSameInts _ (by omega)) (Ev.thn rfl ?_))))
  refine Ev.up ?_
  simp only [formelaw10_TreeMatchesReference.j1]
  refine Ev.obind (Path_r l id) (Ev.bind (refPath l hs id) (Ev.thn (by simp) (Ev.bind (refSameInts _ (by omega)) (Ev.thn rfl ?_))))
  refine Ev.up ?_
  simp only [formelaw10_TreeMatchesReference.j2]
  refine Ev.obind (show tree_Insert.f l n.f0 n.f1 n.f2 n.f3 n.f4 b = some vi from i1) (Ev.bind i3 (Ev.thn (by simp) (Ev.bind (refSame _ (by omega)) (Ev.thn rfl ?_))))
  refine Ev.up ?_
  simp only [formelaw10_TreeMatchesReference.j3]
  refine Ev.obind (Remove_r l id) (Ev.bind (refRemove l hs id) (Ev.thn (by simp) (Ev.bind (refSame _ (by omega)) (Ev.thn rfl ?_))))
  refine Ev.obind (show tree_Move.f l id par b = some vm from m1) (Ev.bind m3 (Ev.thn rfl (Ev.bind (refSame _ (by omega)) (Ev.thn rfl (Ev.const (by simp))))))
 ·exact Ev.els (by simp; omega) (Ev.now _)
end Go.Proofs.Ytpafhhgoldenoaa.P
end
section
namespace Go.Proofs.Ytpafhhgoldenoaa.treeMatchesReference
open Go.ChangeShapes Go.WideShapes Go.ChangeAt Go.RowKit
open Go.ChangeMaps (open_string shut_string)
open Go.Proofs.Ytpafhhgoldenoaa.P
set_option linter.unusedVariables false
set_option maxRecDepth 100000 in
theorem lifted (os : Os) (started : os.Started) (H : Type) (enc : TypeId × Value → H) :
  ReturnsInHanded {} Try.checked os 3 .any (Rows.treeMatchesReferenceSpec.pre6 enc Try.prog Try.f3 Rows.treeMatchesReferenceRow.domain false) (Rows.treeMatchesReferenceSpec.post enc Try.prog Try.f3 false true false false) := by
 refine returnsInHanded_of_change_sized (C := Try.checked) own started (by kernel_rfl) Try.func3
  (ChangeSpec.witness6 (enc := enc) (C := Try.checked) false ⟨#[], #[.slice none 0 0, .agg #[.int .i64 0, .int .i64 0, .int .i64 0, .int .i64 0, .string ⟨#[]⟩], .int .i64 0, .int .i64 0, .int .i64 0], []⟩ 8 (by kernel_rfl) (by kernel_rfl) (by kernel_rfl) (by kernel_rfl)) ?_
 intro W base args ds gs before hval0 hW hcnd hsz0 _
 have hval : ∀ (j : Nat) t v, Try.f3.params[j]? = some t → args[j]? = some v → Value.okWide Try.prog W .any base t v := hval0
 have hW' := hW
 obtain ⟨p, q, hA0, hV, rfl, hfz, hnd⟩ := hW
 have hA : DataW.TrodAll enc Try.prog W 0 (fun _ => true) true Try.f3.params.toList args.toList ds p := hA0
 rw [Try.params3] at hA hval
 obtain ⟨v0, vs0, d0, ds0, p0, q0, hargs, rfl, rfl, h0, r0⟩ := trodAll_cons hA
 obtain ⟨v1, vs1, d1, ds1, p1, q1, rfl, rfl, rfl, h1, r1⟩ := trodAll_cons r0
 obtain ⟨v2, vs2, d2, ds2, p2, q2, rfl, rfl, rfl, h2, r2⟩ := trodAll_cons r1
 obtain ⟨v3, vs3, d3, ds3, p3, q3, rfl, rfl, rfl, h3, r3⟩ := trodAll_cons r2
 obtain ⟨v4, vs4, d4, ds4, p4, q4, rfl, rfl, rfl, h4, r4⟩ := trodAll_cons r3
 obtain ⟨rfl, rfl, rfl⟩ := trodAll_nil r4
 obtain rfl : args = #[v0, v1, v2, v3, v4] := by cases args; simp_all
 obtain ⟨rfl, rfl⟩ := trodVars_none hV
 have k0 := h0
 have lt0 : ∀ x ∈ p0, x.block < W.heap.size := by obtain ⟨m, hm⟩ := k0; exact DataW.trod_lt m _ _ _ hm
 obtain ⟨A0, l0, c0, rfl, hr0, hc0, hs0⟩ := open_nodes (hval 0 22 v0 rfl rfl) h0
 have k1 := h1
 have lt1 : ∀ x ∈ p1, x.block < W.heap.size := by obtain ⟨m, hm⟩ := k1; exact DataW.trod_lt m _ _ _ hm
 obtain ⟨n1, rfl, hs1⟩ := open_node (hval 1 24 v1 rfl rfl) h1
 obtain ⟨a2, rfl, rfl, rfl, w2⟩ := open_int Try.underlying3 (hval 2 3 v2 rfl rfl) h2
 obtain ⟨a3, rfl, rfl, rfl, w3⟩ := open_int Try.underlying3 (hval 3 3 v3 rfl rfl) h3
 obtain ⟨a4, rfl, rfl, rfl, w4⟩ := open_int Try.underlying3 (hval 4 3 v4 rfl rfl) h4
 clear hA0 hval0 hsz0
 obtain ⟨k, h⟩ := matches_pure l0 n1 a2 a3 a4 (fun j hj => hs0 _ (by simp [rd_T24, hj])) hs1 (i64_wf w2) (i64_wf w3) (i64_wf w4)
 refine (formelaw10_TreeMatchesReference.calls k A0 c0 l0 n1.f0 n1.f1 n1.f2 n1.f3 n1.f4 a2 a3 a4 true W hr0 hc0 h).mono fun e W' ⟨he, bel⟩ => ?_
 subst he
 exact ⟨_, rfl, _, _, _, [], _, [], hW', trodAll_mk1 (shut_bool Try.underlying4 _), (trodAll_cons_mk (Below.trod laidOut (by kernel_rfl) (of_decide_eq_true (by kernel_rfl)) k0 bel lt0) (trodAll_cons_mk (Below.trod laidOut (by kernel_rfl) (of_decide_eq_true (by kernel_rfl)) k1 bel lt1) (trodAll_cons_mk (shut_int Try.underlying3 w2) (trodAll_cons_mk (shut_int Try.underlying3 w3) (trodAll_cons_mk (shut_int Try.underlying3 w4) trodAll_mk0))))), rfl, bel.frame _, fun h => by cases h⟩
theorem over : Rows.treeMatchesReferenceRow.holds Try.pinned (OpenSpec.ofChange Rows.treeMatchesReferenceSpec) :=
 OpenClaim.holds_of_wide 3 Try.f3 rfl rfl rfl rfl rfl rfl rfl ⟨rfl, rfl, rfl, rfl, rfl⟩ rfl rfl rfl rfl rfl (by kernel_rfl) Try.func3 (by kernel_rfl)
  (of_decide_eq_true (by kernel_rfl)) (by unfold Func.isWrapper; first | (rw [if_pos (by decide +kernel)]; kernel_rfl) | (rw [if_neg (by decide +kernel)]; exact ⟨rfl, rfl⟩))
  (fun os started H enc _ => lifted os started H enc)
theorem proved : Rows.TreeMatchesReferenceSaid := over
#print axioms proved
end Go.Proofs.Ytpafhhgoldenoaa.treeMatchesReference
namespace Go.Proofs.Ytpafhhgoldenoaa
theorem treeMatchesReference_holds : Rows.TreeMatchesReferenceSaid := treeMatchesReference.proved
end Go.Proofs.Ytpafhhgoldenoaa
end

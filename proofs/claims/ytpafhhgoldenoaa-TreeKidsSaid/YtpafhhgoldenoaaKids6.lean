import Derived.Test.YtpafhhgoldenoaaKids5
/- The law of children holds for every list of nodes: TreeKids returns true and leaves the list as it was. -/
section
namespace Go.Proofs.Ytpafhhgoldenoaa.P
open Go.RowKit Go.Proofs.YtpafhhgoldenoaaW.PrintWords Go.Proofs.YtpafhhgoldenoaaW.PrintLast Go.Proofs.YtpafhhgoldenoaaW.PrintMore
attribute [local go_sem] max2_int min2_int max_two min_two max_three min_three max_four min_four
set_option linter.unusedVariables false
set_option linter.unusedSimpArgs false
mutual
def formelaw10_TreeKids.l0 : Nat → List (S24) → Bool → Int → List (S24) → Int → Int → Option (Bool)
 | 0, _, _, _, _, _, _ => none
 | k + 1, x0, x3, x4, x20, x21, x22 => if x22 < x21 then (if 0 ≤ x22 then (if x22 < (x20.length : Int) then ((tree_Kids.f k x0 ((rd_T24 x20 x22).f0)).bind fun bt471 => (if bt471.2 = 0 then (formelaw10_TreeKids.l1 k x0 x3 x4 0 x20 x21 x22 bt471.1 (bt471.1.length : Int) 0 ((rd_T24 x20 x22).f0) ((rd_T24 x20 x22).f1) ((rd_T24 x20 x22).f2) ((rd_T24 x20 x22).f3) ((rd_T24 x20 x22).f4)) else (none))) else (none)) else (none)) else (if x3 = true then (some (x4 == (wrap64 ((x0.length : Int) - 1)))) else (none))
def formelaw10_TreeKids.l1 : Nat → List (S24) → Bool → Int → Int → List (S24) → Int → Int → List Int → Int → Int → Int → Int → Int → Int → ByteArray → Option (Bool)
 | 0, _, _, _, _, _, _, _, _, _, _, _, _, _, _, _ => none
 | k + 1, x0, x3, x4, x9, x20, x21, x22, x35, x36, x37, x471000, x471001, x471002, x471003, x471004 => if x37 < x36 then (if 0 ≤ x37 then (if x37 < (x35.length : Int) then ((tree_Find.f x0 (rd x35 x37)).bind fun bt476 => (if bt476.2.2 = 0 then (if bt476.2.1 = true then (if bt476.1 ≤ x9 then (none) else (if bt476.1 ≥ (x0.length : Int) then (none) else (if 0 ≤ bt476.1 then (if bt476.1 < (x0.length : Int) then (if ((rd_T24 x0 bt476.1).f1) = x471000 then (if ((rd_T24 x0 bt476.1).f0) = (rd x35 x37) then (formelaw10_TreeKids.l1 k x0 x3 (wrap64 (x4 + 1)) bt476.1 x20 x21 x22 x35 x36 (wrap64 (x37 + 1)) x471000 x471001 x471002 x471003 x471004) else (none)) else (none)) else (none)) else (none)))) else (none)) else (none))) else (none)) else (none)) else (formelaw10_TreeKids.l0 k x0 x3 x4 x20 x21 (wrap64 (x22 + 1)))
end
def formelaw10_TreeKids.f (k : Nat) (l0 : List (S24)) : Option (Bool) := (formelaw10_head.f k).bind fun t467 => ((formelaw10_usable.f k l0).bind fun t468 => (if t468 = true then (formelaw10_TreeKids.l0 k l0 t467 0 l0 (l0.length : Int) 0) else (some t467)))
theorem formelaw10_TreeKids.mono_l : ∀ k, (∀ y0 y1 y2 y3 y4 y5, LeO (formelaw10_TreeKids.l0 k y0 y1 y2 y3 y4 y5) (formelaw10_TreeKids.l0 (k + 1) y0 y1 y2 y3 y4 y5)) ∧ (∀ y0 y1 y2 y3 y4 y5 y6 y7 y8 y9 y10 y11 y12 y13 y14, LeO (formelaw10_TreeKids.l1 k y0 y1 y2 y3 y4 y5 y6 y7 y8 y9 y10 y11 y12 y13 y14) (formelaw10_TreeKids.l1 (k + 1) y0 y1 y2 y3 y4 y5 y6 y7 y8 y9 y10 y11 y12 y13 y14))
 | 0 => ⟨fun _ _ _ _ _ _ r h => by simp [formelaw10_TreeKids.l0] at h, fun _ _ _ _ _ _ _ _ _ _ _ _ _ _ _ r h => by simp [formelaw10_TreeKids.l1] at h⟩
 | k + 1 => by
  obtain ⟨ih0, ih1⟩ := formelaw10_TreeKids.mono_l k
  refine ⟨?_, ?_⟩
  ·intro y0 y1 y2 y3 y4 y5
   unfold formelaw10_TreeKids.l0
   repeat' first
   | (with_reducible exact ih0 _ _ _ _ _ _)
   | (with_reducible exact ih1 _ _ _ _ _ _ _ _ _ _ _ _ _ _ _)
   | (with_reducible exact formelaw10_head.mono _)
   | (with_reducible exact formelaw10_usable.mono _ _)
   | (with_reducible exact tree_Kids.mono _ _ _)
   | (with_reducible exact LeO.refl _)
   | (with_reducible exact LeO.none _)
   | (with_reducible refine LeO.ite ?_ ?_)
   | (with_reducible refine LeO.bind ?_ (fun _ => ?_))
   | exact ih0 _ _ _ _ _ _
   | exact ih1 _ _ _ _ _ _ _ _ _ _ _ _ _ _ _
   | exact formelaw10_head.mono _
   | exact formelaw10_usable.mono _ _
   | exact tree_Kids.mono _ _ _
   | exact LeO.none _
   | refine LeO.ite ?_ ?_
   | refine LeO.bind ?_ (fun _ => ?_)
  ·intro y0 y1 y2 y3 y4 y5 y6 y7 y8 y9 y10 y11 y12 y13 y14
   unfold formelaw10_TreeKids.l1
   repeat' first
   | (with_reducible exact ih0 _ _ _ _ _ _)
   | (with_reducible exact ih1 _ _ _ _ _ _ _ _ _ _ _ _ _ _ _)
   | (with_reducible exact formelaw10_head.mono _)
   | (with_reducible exact formelaw10_usable.mono _ _)
   | (with_reducible exact tree_Kids.mono _ _ _)
   | (with_reducible exact LeO.refl _)
   | (with_reducible exact LeO.none _)
   | (with_reducible refine LeO.ite ?_ ?_)
   | (with_reducible refine LeO.bind ?_ (fun _ => ?_))
   | exact ih0 _ _ _ _ _ _
   | exact ih1 _ _ _ _ _ _ _ _ _ _ _ _ _ _ _
   | exact formelaw10_head.mono _
   | exact formelaw10_usable.mono _ _
   | exact tree_Kids.mono _ _ _
   | exact LeO.none _
   | refine LeO.ite ?_ ?_
   | refine LeO.bind ?_ (fun _ => ?_)
theorem formelaw10_TreeKids.mono : ∀ a0 k, LeO (formelaw10_TreeKids.f k a0) (formelaw10_TreeKids.f (k + 1) a0) := by
 intro a0 k
 obtain ⟨ih0, ih1⟩ := formelaw10_TreeKids.mono_l k
 unfold formelaw10_TreeKids.f
 repeat' first
   | (with_reducible exact ih0 _ _ _ _ _ _)
   | (with_reducible exact ih1 _ _ _ _ _ _ _ _ _ _ _ _ _ _ _)
   | (with_reducible exact formelaw10_head.mono _)
   | (with_reducible exact formelaw10_usable.mono _ _)
   | (with_reducible exact tree_Kids.mono _ _ _)
   | (with_reducible exact LeO.refl _)
   | (with_reducible exact LeO.none _)
   | (with_reducible refine LeO.ite ?_ ?_)
   | (with_reducible refine LeO.bind ?_ (fun _ => ?_))
   | exact ih0 _ _ _ _ _ _
   | exact ih1 _ _ _ _ _ _ _ _ _ _ _ _ _ _ _
   | exact formelaw10_head.mono _
   | exact formelaw10_usable.mono _ _
   | exact tree_Kids.mono _ _ _
   | exact LeO.none _
   | refine LeO.ite ?_ ?_
   | refine LeO.bind ?_ (fun _ => ?_)
set_option maxHeartbeats 8000000 in
set_option maxRecDepth 100000 in
theorem formelaw10_TreeKids.calls (k : Nat) (A0 : Option Addr) (c0 : Nat) (l0 : List (S24)) (r : Bool) (w : World) (hr0 : Kd.C k24 w A0 l0.length l0) (hc0 : l0.length ≤ c0) (h : formelaw10_TreeKids.f k l0 = some r) :
  Calls Try.prog 4 #[.slice A0 l0.length c0] w fun e w' => e = .returned (.bool r) ∧ Below w.heap.size w w' := by
 have hu24 := Try.underlying24
 have HR0 := Aside0.mk hr0
 have HC0 := Aside0.mk hc0
 clear hr0 hc0
 have HB := Aside0.mk (Below.refl w.heap.size w)
 have H : ((formelaw10_head.f k).bind fun t467 => ((formelaw10_usable.f k l0).bind fun t468 => (if t468 = true then (formelaw10_TreeKids.l0 k l0 t467 0 l0 (l0.length : Int) 0) else (some t467)))) = some r := h
 clear h
 replace H := Option.bind_eq_some_iff.mp H
 obtain ⟨t467, A20, H⟩ := H
 try dsimp only at H
 have A2 := Aside0.mk A20
 clear A20
 replace H := Option.bind_eq_some_iff.mp H
 obtain ⟨t468, A30, H⟩ := H
 try dsimp only at H
 have A3 := Aside0.mk A30
 clear A30
 by_cases c4 : t468 = true
 ·subst c4
  have H1 : (formelaw10_TreeKids.l0 k l0 t467 0 l0 (l0.length : Int) 0) = some r := by rw [if_pos rfl] at H; exact H
  clear H
  have H := H1
  clear H1
  have H' := Aside0.mk H
  clear H
  go_enter Try.func4, Try.ntmps4
  go_wp2_with (first | (go_at_call 9; (with_reducible refine (formelaw10_head.calls k  t467 _ A2.out).mono ?_); rintro e w5 ⟨rfl, hb⟩; have n0_ := Aside0.mk (below_step (by repeat (first | (with_reducible first | exact HB.out | apply below_alloc | apply pw_below_drewN | apply below_drew1) | exact HB.out)) hb); clear HB; have HB := n0_; clear n0_; (try clear hb); (try clear hb2); (try clear hk); (try clear hi)) | (go_at_call 27; (with_reducible refine (formelaw10_usable.calls k _ _ l0 true _ ?side1 ?side2 A3.out).mono ?_); (case side1 => repeat (first | exact (Kd.C_below HR0.out HB.out) | (with_reducible refine Kd.C_alloc ?_ _) | (with_reducible refine Kd.C_drewN ?_ _) | (with_reducible refine Kd.C_drew ?_))); (case side2 => exact HC0.out); rintro e w6 ⟨rfl, hb⟩; have n0_ := Aside0.mk (below_step (by repeat (first | (with_reducible first | exact HB.out | apply below_alloc | apply pw_below_drewN | apply below_drew1) | exact HB.out)) hb); clear HB; have HB := n0_; clear n0_; (try clear hb); (try clear hb2); (try clear hk); (try clear hi)))
  repeat (go_quiet (first | (go_at_call 9; (with_reducible refine (formelaw10_head.calls k  t467 _ A2.out).mono ?_); rintro e w5 ⟨rfl, hb⟩; have n0_ := Aside0.mk (below_step (by repeat (first | (with_reducible first | exact HB.out | apply below_alloc | apply pw_below_drewN | apply below_drew1) | exact HB.out)) hb); clear HB; have HB := n0_; clear n0_; (try clear hb); (try clear hb2); (try clear hk); (try clear hi)) | (go_at_call 27; (with_reducible refine (formelaw10_usable.calls k _ _ l0 true _ ?side1 ?side2 A3.out).mono ?_); (case side1 => repeat (first | exact (Kd.C_below HR0.out HB.out) | (with_reducible refine Kd.C_alloc ?_ _) | (with_reducible refine Kd.C_drewN ?_ _) | (with_reducible refine Kd.C_drew ?_))); (case side2 => exact HC0.out); rintro e w6 ⟨rfl, hb⟩; have n0_ := Aside0.mk (below_step (by repeat (first | (with_reducible first | exact HB.out | apply below_alloc | apply pw_below_drewN | apply below_drew1) | exact HB.out)) hb); clear HB; have HB := n0_; clear n0_; (try clear hb); (try clear hb2); (try clear hk); (try clear hi))); try go_wp2_with (first | (go_at_call 9; (with_reducible refine (formelaw10_head.calls k  t467 _ A2.out).mono ?_); rintro e w5 ⟨rfl, hb⟩; have n0_ := Aside0.mk (below_step (by repeat (first | (with_reducible first | exact HB.out | apply below_alloc | apply pw_below_drewN | apply below_drew1) | exact HB.out)) hb); clear HB; have HB := n0_; clear n0_; (try clear hb); (try clear hb2); (try clear hk); (try clear hi)) | (go_at_call 27; (with_reducible refine (formelaw10_usable.calls k _ _ l0 true _ ?side1 ?side2 A3.out).mono ?_); (case side1 => repeat (first | exact (Kd.C_below HR0.out HB.out) | (with_reducible refine Kd.C_alloc ?_ _) | (with_reducible refine Kd.C_drewN ?_ _) | (with_reducible refine Kd.C_drew ?_))); (case side2 => exact HC0.out); rintro e w6 ⟨rfl, hb⟩; have n0_ := Aside0.mk (below_step (by repeat (first | (with_reducible first | exact HB.out | apply below_alloc | apply pw_below_drewN | apply below_drew1) | exact HB.out)) hb); clear HB; have HB := n0_; clear n0_; (try clear hb); (try clear hb2); (try clear hk); (try clear hi))))
  go_loopg [4, 22] k (fun kq v4 v22 w' => ∃ (x4_1 : Int) (x22_1 : Int), v4 = .int .i64 x4_1 ∧ v22 = .int .i64 x22_1 ∧ Aside0 (formelaw10_TreeKids.l0 kq l0 t467 x4_1 l0 (l0.length : Int) x22_1 = some r) ∧ Aside0 (kq ≤ k) ∧ Aside0 (Below w.heap.size w w'))
  case atStart => exact ⟨(0), (0), (by first | rfl | (simp; done) | (simp [*]; done)), (by first | rfl | (simp; done) | (simp [*]; done)), H', ⟨Nat.le_refl _⟩, ⟨by repeat (first | (with_reducible first | exact HB.out | apply below_alloc | apply pw_below_drewN | apply below_drew1) | exact HB.out)⟩⟩
  case round =>
   clear H'
   try clear p2
   try clear c4
   obtain ⟨x4_1, x22_1, rfl, rfl, HA, HK1, HB⟩ := hrel
   cases gk with
   | zero => exact absurd HA.out (by simp [formelaw10_TreeKids.l0])
   | succ k1 =>
    have H := HA.out
    clear HA
    simp only [formelaw10_TreeKids.l0] at H
    by_cases c7 : x22_1 < (l0.length : Int)
    ·rw [if_pos c7] at H
     have c7b0 : decide (x22_1 < (l0.length : Int)) = true := decide_eq_true c7
     clear c7
     by_cases c8 : 0 ≤ x22_1
     rotate_left
     ·rw [if_neg c8] at H; exact absurd H (by simp)
     rw [if_pos c8] at H
     have c8b0 : decide (0 ≤ x22_1) = true := decide_eq_true c8
     clear c8
     by_cases c9 : x22_1 < (l0.length : Int)
     rotate_left
     ·rw [if_neg c9] at H; exact absurd H (by simp)
     rw [if_pos c9] at H
     have c9b0 : decide (x22_1 < (l0.length : Int)) = true := decide_eq_true c9
     clear c9
     replace H := Option.bind_eq_some_iff.mp H
     obtain ⟨⟨t471, t472⟩, A100, H⟩ := H
     try dsimp only at H
     have A10 := Aside0.mk A100
     clear A100
     by_cases c11 : t472 = 0
     rotate_left
     ·rw [if_neg c11] at H; exact absurd H (by simp)
     rw [if_pos c11] at H
     have c11b0 : (t472 == 0) = true := beq_iff_eq.mpr c11
     have c11b1 : (t472 != 0) = false := bne_eq_false_iff_eq.mpr c11
     clear c11
     have H' := Aside0.mk H
     clear H
     have p469 : 0 ≤ (x22_1 : Int) := of_decide_eq_true (by first | (with_reducible assumption) | assumption)
     have q469 : x22_1 < (l0.length : Int) := of_decide_eq_true (by first | (with_reducible assumption) | assumption)
     obtain ⟨ad469, e469, hx469_0, hx469_1, hx469_2, hx469_3, hx469_4⟩ := at_T24 HR0.out x22_1 p469 q469
     cases e469
     replace hx469_0 := (HB.out.cell (World.block_lt_of_cell? w _ hx469_0)).trans hx469_0
     replace hx469_1 := (HB.out.cell (World.block_lt_of_cell? w _ hx469_1)).trans hx469_1
     replace hx469_2 := (HB.out.cell (World.block_lt_of_cell? w _ hx469_2)).trans hx469_2
     replace hx469_3 := (HB.out.cell (World.block_lt_of_cell? w _ hx469_3)).trans hx469_3
     replace hx469_4 := (HB.out.cell (World.block_lt_of_cell? w _ hx469_4)).trans hx469_4
     replace p469 := eq_true p469
     replace q469 := eq_true q469
     go_wp2_with (first | ((with_reducible refine gate_dst (N := 6) rfl ?_); (try (refine gate_guard (by rfl) ?_; dsimp only)); refine box_event ?hg (N := 6) ?hd (cs := #[.int .i64 0, .int .i64 0, .int .i64 0, .int .i64 0, .string (⟨#[]⟩ : ByteArray)]) (t := 24) ?hr ?_; (case hd => rfl); (case hg => rfl); (case hr => first | (go_simp; done) | (go_simp; rfl)); intro gb470 hg w12 hbox hb; have n0_ := Aside0.mk (below_step (by repeat (first | (with_reducible first | exact HB.out | apply below_alloc | apply pw_below_drewN | apply below_drew1) | exact HB.out)) hb); have n1_ := Aside0.mk (hbox); have n2_ := Aside0.mk ((by rw [hg]; exact (below_size (by repeat (first | (with_reducible first | exact HB.out | apply below_alloc | apply pw_below_drewN | apply below_drew1) | exact HB.out))) : w.heap.size ≤ gb470)); have n3_ := Aside0.mk ((by rw [hg]; exact (below_size (by repeat (first | (with_reducible first | exact HB.out | apply below_alloc | apply pw_below_drewN | apply below_drew1) | exact HB.out))) : w.heap.size ≤ gb470)); clear HB; have HB := n0_; have BK470 := n1_; have GW470 := n2_; have GE470 := n3_; clear n0_ n1_ n2_ n3_; clear hb hbox hg; have hcz13_0 : w12.cell? ⟨gb470, 0, none⟩ = some (.int .i64 0) := (blk_cell BK470.out 0).trans rfl; have hcz13_1 : w12.cell? ⟨gb470, 1, none⟩ = some (.int .i64 0) := (blk_cell BK470.out 1).trans rfl; have hcz13_2 : w12.cell? ⟨gb470, 2, none⟩ = some (.int .i64 0) := (blk_cell BK470.out 2).trans rfl; have hcz13_3 : w12.cell? ⟨gb470, 3, none⟩ = some (.int .i64 0) := (blk_cell BK470.out 3).trans rfl; have hcz13_4 : w12.cell? ⟨gb470, 4, none⟩ = some (.string (⟨#[]⟩ : ByteArray)) := (blk_cell BK470.out 4).trans rfl; have hfz13_0 := blk_frozen BK470.out 0; have hfz13_1 := blk_frozen BK470.out 1; have hfz13_2 := blk_frozen BK470.out 2; have hfz13_3 := blk_frozen BK470.out 3; have hfz13_4 := blk_frozen BK470.out 4) | (go_at_call 15; (with_reducible refine (tree_Kids.calls k1 _ _ l0 ((rd_T24 l0 x22_1).f0) t471 t472 _ ?side1 ?side2 A10.out).mono ?_); (case side1 => exact Kd.C_below HR0.out (by repeat (first | (with_reducible first | exact HB.out | apply below_alloc | apply pw_below_drewN | apply below_drew1 | refine below_set ?_ GE470.out) | exact HB.out))); (case side2 => exact HC0.out); rintro e w14 ⟨v473, rfl, ho0, hb⟩; have n0_ := Aside0.mk (Kd.R_lower ho0 (below_size (by repeat (first | (with_reducible first | exact HB.out | apply below_alloc | apply pw_below_drewN | apply below_drew1 | refine below_set ?_ GE470.out) | exact HB.out)))); have n1_ := Aside0.mk (blk_below (g := gb470) (o := .cells #[.int .i64 ((rd_T24 l0 x22_1).f0), .int .i64 ((rd_T24 l0 x22_1).f1), .int .i64 ((rd_T24 l0 x22_1).f2), .int .i64 ((rd_T24 l0 x22_1).f3), .string ((rd_T24 l0 x22_1).f4)] 24 (0, 0)) (by (with_reducible repeat (first | refine blk_drewN ?_ _ | refine blk_drew ?_ | refine blk_alloc ?_ _)); refine blk_put (cs := #[.int .i64 ((rd_T24 l0 x22_1).f0), .int .i64 ((rd_T24 l0 x22_1).f1), .int .i64 ((rd_T24 l0 x22_1).f2), .int .i64 ((rd_T24 l0 x22_1).f3), .string (⟨#[]⟩ : ByteArray)]) ?_ 4 _ rfl; (with_reducible repeat (first | refine blk_drewN ?_ _ | refine blk_drew ?_ | refine blk_alloc ?_ _)); refine blk_put (cs := #[.int .i64 ((rd_T24 l0 x22_1).f0), .int .i64 ((rd_T24 l0 x22_1).f1), .int .i64 ((rd_T24 l0 x22_1).f2), .int .i64 0, .string (⟨#[]⟩ : ByteArray)]) ?_ 3 _ rfl; (with_reducible repeat (first | refine blk_drewN ?_ _ | refine blk_drew ?_ | refine blk_alloc ?_ _)); refine blk_put (cs := #[.int .i64 ((rd_T24 l0 x22_1).f0), .int .i64 ((rd_T24 l0 x22_1).f1), .int .i64 0, .int .i64 0, .string (⟨#[]⟩ : ByteArray)]) ?_ 2 _ rfl; (with_reducible repeat (first | refine blk_drewN ?_ _ | refine blk_drew ?_ | refine blk_alloc ?_ _)); refine blk_put (cs := #[.int .i64 ((rd_T24 l0 x22_1).f0), .int .i64 0, .int .i64 0, .int .i64 0, .string (⟨#[]⟩ : ByteArray)]) ?_ 1 _ rfl; (with_reducible repeat (first | refine blk_drewN ?_ _ | refine blk_drew ?_ | refine blk_alloc ?_ _)); refine blk_put (cs := #[.int .i64 0, .int .i64 0, .int .i64 0, .int .i64 0, .string (⟨#[]⟩ : ByteArray)]) ?_ 0 _ rfl; (with_reducible repeat (first | refine blk_drewN ?_ _ | refine blk_drew ?_ | refine blk_alloc ?_ _)); exact BK470.out) hb); have n2_ := Aside0.mk (below_step (by repeat (first | (with_reducible first | exact HB.out | apply below_alloc | apply pw_below_drewN | apply below_drew1 | refine below_set ?_ GE470.out) | exact HB.out)) hb); clear BK470; clear HB; have HO474 := n0_; have BK470 := n1_; have HB := n2_; clear n0_ n1_ n2_; (try clear hb); (try clear hb2); (try clear hk); (try clear hi); (try clear ho0); obtain ⟨Ao15, co15, eo15⟩ := Kd.R_slice HO474.out; subst eo15))
     repeat (go_quiet (first | ((with_reducible refine gate_dst (N := 6) rfl ?_); (try (refine gate_guard (by rfl) ?_; dsimp only)); refine box_event ?hg (N := 6) ?hd (cs := #[.int .i64 0, .int .i64 0, .int .i64 0, .int .i64 0, .string (⟨#[]⟩ : ByteArray)]) (t := 24) ?hr ?_; (case hd => rfl); (case hg => rfl); (case hr => first | (go_simp; done) | (go_simp; rfl)); intro gb470 hg w12 hbox hb; have n0_ := Aside0.mk (below_step (by repeat (first | (with_reducible first | exact HB.out | apply below_alloc | apply pw_below_drewN | apply below_drew1) | exact HB.out)) hb); have n1_ := Aside0.mk (hbox); have n2_ := Aside0.mk ((by rw [hg]; exact (below_size (by repeat (first | (with_reducible first | exact HB.out | apply below_alloc | apply pw_below_drewN | apply below_drew1) | exact HB.out))) : w.heap.size ≤ gb470)); have n3_ := Aside0.mk ((by rw [hg]; exact (below_size (by repeat (first | (with_reducible first | exact HB.out | apply below_alloc | apply pw_below_drewN | apply below_drew1) | exact HB.out))) : w.heap.size ≤ gb470)); clear HB; have HB := n0_; have BK470 := n1_; have GW470 := n2_; have GE470 := n3_; clear n0_ n1_ n2_ n3_; clear hb hbox hg; have hcz13_0 : w12.cell? ⟨gb470, 0, none⟩ = some (.int .i64 0) := (blk_cell BK470.out 0).trans rfl; have hcz13_1 : w12.cell? ⟨gb470, 1, none⟩ = some (.int .i64 0) := (blk_cell BK470.out 1).trans rfl; have hcz13_2 : w12.cell? ⟨gb470, 2, none⟩ = some (.int .i64 0) := (blk_cell BK470.out 2).trans rfl; have hcz13_3 : w12.cell? ⟨gb470, 3, none⟩ = some (.int .i64 0) := (blk_cell BK470.out 3).trans rfl; have hcz13_4 : w12.cell? ⟨gb470, 4, none⟩ = some (.string (⟨#[]⟩ : ByteArray)) := (blk_cell BK470.out 4).trans rfl; have hfz13_0 := blk_frozen BK470.out 0; have hfz13_1 := blk_frozen BK470.out 1; have hfz13_2 := blk_frozen BK470.out 2; have hfz13_3 := blk_frozen BK470.out 3; have hfz13_4 := blk_frozen BK470.out 4) | (go_at_call 15; (with_reducible refine (tree_Kids.calls k1 _ _ l0 ((rd_T24 l0 x22_1).f0) t471 t472 _ ?side1 ?side2 A10.out).mono ?_); (case side1 => exact Kd.C_below HR0.out (by repeat (first | (with_reducible first | exact HB.out | apply below_alloc | apply pw_below_drewN | apply below_drew1 | refine below_set ?_ GE470.out) | exact HB.out))); (case side2 => exact HC0.out); rintro e w14 ⟨v473, rfl, ho0, hb⟩; have n0_ := Aside0.mk (Kd.R_lower ho0 (below_size (by repeat (first | (with_reducible first | exact HB.out | apply below_alloc | apply pw_below_drewN | apply below_drew1 | refine below_set ?_ GE470.out) | exact HB.out)))); have n1_ := Aside0.mk (blk_below (g := gb470) (o := .cells #[.int .i64 ((rd_T24 l0 x22_1).f0), .int .i64 ((rd_T24 l0 x22_1).f1), .int .i64 ((rd_T24 l0 x22_1).f2), .int .i64 ((rd_T24 l0 x22_1).f3), .string ((rd_T24 l0 x22_1).f4)] 24 (0, 0)) (by (with_reducible repeat (first | refine blk_drewN ?_ _ | refine blk_drew ?_ | refine blk_alloc ?_ _)); refine blk_put (cs := #[.int .i64 ((rd_T24 l0 x22_1).f0), .int .i64 ((rd_T24 l0 x22_1).f1), .int .i64 ((rd_T24 l0 x22_1).f2), .int .i64 ((rd_T24 l0 x22_1).f3), .string (⟨#[]⟩ : ByteArray)]) ?_ 4 _ rfl; (with_reducible repeat (first | refine blk_drewN ?_ _ | refine blk_drew ?_ | refine blk_alloc ?_ _)); refine blk_put (cs := #[.int .i64 ((rd_T24 l0 x22_1).f0), .int .i64 ((rd_T24 l0 x22_1).f1), .int .i64 ((rd_T24 l0 x22_1).f2), .int .i64 0, .string (⟨#[]⟩ : ByteArray)]) ?_ 3 _ rfl; (with_reducible repeat (first | refine blk_drewN ?_ _ | refine blk_drew ?_ | refine blk_alloc ?_ _)); refine blk_put (cs := #[.int .i64 ((rd_T24 l0 x22_1).f0), .int .i64 ((rd_T24 l0 x22_1).f1), .int .i64 0, .int .i64 0, .string (⟨#[]⟩ : ByteArray)]) ?_ 2 _ rfl; (with_reducible repeat (first | refine blk_drewN ?_ _ | refine blk_drew ?_ | refine blk_alloc ?_ _)); refine blk_put (cs := #[.int .i64 ((rd_T24 l0 x22_1).f0), .int .i64 0, .int .i64 0, .int .i64 0, .string (⟨#[]⟩ : ByteArray)]) ?_ 1 _ rfl; (with_reducible repeat (first | refine blk_drewN ?_ _ | refine blk_drew ?_ | refine blk_alloc ?_ _)); refine blk_put (cs := #[.int .i64 0, .int .i64 0, .int .i64 0, .int .i64 0, .string (⟨#[]⟩ : ByteArray)]) ?_ 0 _ rfl; (with_reducible repeat (first | refine blk_drewN ?_ _ | refine blk_drew ?_ | refine blk_alloc ?_ _)); exact BK470.out) hb); have n2_ := Aside0.mk (below_step (by repeat (first | (with_reducible first | exact HB.out | apply below_alloc | apply pw_below_drewN | apply below_drew1 | refine below_set ?_ GE470.out) | exact HB.out)) hb); clear BK470; clear HB; have HO474 := n0_; have BK470 := n1_; have HB := n2_; clear n0_ n1_ n2_; (try clear hb); (try clear hb2); (try clear hk); (try clear hi); (try clear ho0); obtain ⟨Ao15, co15, eo15⟩ := Kd.R_slice HO474.out; subst eo15)); try go_wp2_with (first | ((with_reducible refine gate_dst (N := 6) rfl ?_); (try (refine gate_guard (by rfl) ?_; dsimp only)); refine box_event ?hg (N := 6) ?hd (cs := #[.int .i64 0, .int .i64 0, .int .i64 0, .int .i64 0, .string (⟨#[]⟩ : ByteArray)]) (t := 24) ?hr ?_; (case hd => rfl); (case hg => rfl); (case hr => first | (go_simp; done) | (go_simp; rfl)); intro gb470 hg w12 hbox hb; have n0_ := Aside0.mk (below_step (by repeat (first | (with_reducible first | exact HB.out | apply below_alloc | apply pw_below_drewN | apply below_drew1) | exact HB.out)) hb); have n1_ := Aside0.mk (hbox); have n2_ := Aside0.mk ((by rw [hg]; exact (below_size (by repeat (first | (with_reducible first | exact HB.out | apply below_alloc | apply pw_below_drewN | apply below_drew1) | exact HB.out))) : w.heap.size ≤ gb470)); have n3_ := Aside0.mk ((by rw [hg]; exact (below_size (by repeat (first | (with_reducible first | exact HB.out | apply below_alloc | apply pw_below_drewN | apply below_drew1) | exact HB.out))) : w.heap.size ≤ gb470)); clear HB; have HB := n0_; have BK470 := n1_; have GW470 := n2_; have GE470 := n3_; clear n0_ n1_ n2_ n3_; clear hb hbox hg; have hcz13_0 : w12.cell? ⟨gb470, 0, none⟩ = some (.int .i64 0) := (blk_cell BK470.out 0).trans rfl; have hcz13_1 : w12.cell? ⟨gb470, 1, none⟩ = some (.int .i64 0) := (blk_cell BK470.out 1).trans rfl; have hcz13_2 : w12.cell? ⟨gb470, 2, none⟩ = some (.int .i64 0) := (blk_cell BK470.out 2).trans rfl; have hcz13_3 : w12.cell? ⟨gb470, 3, none⟩ = some (.int .i64 0) := (blk_cell BK470.out 3).trans rfl; have hcz13_4 : w12.cell? ⟨gb470, 4, none⟩ = some (.string (⟨#[]⟩ : ByteArray)) := (blk_cell BK470.out 4).trans rfl; have hfz13_0 := blk_frozen BK470.out 0; have hfz13_1 := blk_frozen BK470.out 1; have hfz13_2 := blk_frozen BK470.out 2; have hfz13_3 := blk_frozen BK470.out 3; have hfz13_4 := blk_frozen BK470.out 4) | (go_at_call 15; (with_reducible refine (tree_Kids.calls k1 _ _ l0 ((rd_T24 l0 x22_1).f0) t471 t472 _ ?side1 ?side2 A10.out).mono ?_); (case side1 => exact Kd.C_below HR0.out (by repeat (first | (with_reducible first | exact HB.out | apply below_alloc | apply pw_below_drewN | apply below_drew1 | refine below_set ?_ GE470.out) | exact HB.out))); (case side2 => exact HC0.out); rintro e w14 ⟨v473, rfl, ho0, hb⟩; have n0_ := Aside0.mk (Kd.R_lower ho0 (below_size (by repeat (first | (with_reducible first | exact HB.out | apply below_alloc | apply pw_below_drewN | apply below_drew1 | refine below_set ?_ GE470.out) | exact HB.out)))); have n1_ := Aside0.mk (blk_below (g := gb470) (o := .cells #[.int .i64 ((rd_T24 l0 x22_1).f0), .int .i64 ((rd_T24 l0 x22_1).f1), .int .i64 ((rd_T24 l0 x22_1).f2), .int .i64 ((rd_T24 l0 x22_1).f3), .string ((rd_T24 l0 x22_1).f4)] 24 (0, 0)) (by (with_reducible repeat (first | refine blk_drewN ?_ _ | refine blk_drew ?_ | refine blk_alloc ?_ _)); refine blk_put (cs := #[.int .i64 ((rd_T24 l0 x22_1).f0), .int .i64 ((rd_T24 l0 x22_1).f1), .int .i64 ((rd_T24 l0 x22_1).f2), .int .i64 ((rd_T24 l0 x22_1).f3), .string (⟨#[]⟩ : ByteArray)]) ?_ 4 _ rfl; (with_reducible repeat (first | refine blk_drewN ?_ _ | refine blk_drew ?_ | refine blk_alloc ?_ _)); refine blk_put (cs := #[.int .i64 ((rd_T24 l0 x22_1).f0), .int .i64 ((rd_T24 l0 x22_1).f1), .int .i64 ((rd_T24 l0 x22_1).f2), .int .i64 0, .string (⟨#[]⟩ : ByteArray)]) ?_ 3 _ rfl; (with_reducible repeat (first | refine blk_drewN ?_ _ | refine blk_drew ?_ | refine blk_alloc ?_ _)); refine blk_put (cs := #[.int .i64 ((rd_T24 l0 x22_1).f0), .int .i64 ((rd_T24 l0 x22_1).f1), .int .i64 0, .int .i64 0, .string (⟨#[]⟩ : ByteArray)]) ?_ 2 _ rfl; (with_reducible repeat (first | refine blk_drewN ?_ _ | refine blk_drew ?_ | refine blk_alloc ?_ _)); refine blk_put (cs := #[.int .i64 ((rd_T24 l0 x22_1).f0), .int .i64 0, .int .i64 0, .int .i64 0, .string (⟨#[]⟩ : ByteArray)]) ?_ 1 _ rfl; (with_reducible repeat (first | refine blk_drewN ?_ _ | refine blk_drew ?_ | refine blk_alloc ?_ _)); refine blk_put (cs := #[.int .i64 0, .int .i64 0, .int .i64 0, .int .i64 0, .string (⟨#[]⟩ : ByteArray)]) ?_ 0 _ rfl; (with_reducible repeat (first | refine blk_drewN ?_ _ | refine blk_drew ?_ | refine blk_alloc ?_ _)); exact BK470.out) hb); have n2_ := Aside0.mk (below_step (by repeat (first | (with_reducible first | exact HB.out | apply below_alloc | apply pw_below_drewN | apply below_drew1 | refine below_set ?_ GE470.out) | exact HB.out)) hb); clear BK470; clear HB; have HO474 := n0_; have BK470 := n1_; have HB := n2_; clear n0_ n1_ n2_; (try clear hb); (try clear hb2); (try clear hk); (try clear hi); (try clear ho0); obtain ⟨Ao15, co15, eo15⟩ := Kd.R_slice HO474.out; subst eo15)))
     go_loopg [4, 9, 37] k1 (fun kq v4 v9 v37 w' => ∃ (x4_2 : Int) (x9_2 : Int) (x37_2 : Int), v4 = .int .i64 x4_2 ∧ v9 = .int .i64 x9_2 ∧ v37 = .int .i64 x37_2 ∧ Aside0 (formelaw10_TreeKids.l1 kq l0 t467 x4_2 x9_2 l0 (l0.length : Int) x22_1 t471 (t471.length : Int) x37_2 ((rd_T24 l0 x22_1).f0) ((rd_T24 l0 x22_1).f1) ((rd_T24 l0 x22_1).f2) ((rd_T24 l0 x22_1).f3) ((rd_T24 l0 x22_1).f4) = some r) ∧ Aside0 (kq ≤ k1) ∧ Aside0 (Kd.R (Kd.int .i64) 3 w' w.heap.size (fun _ => True) (.slice Ao15 t471.length co15) t471) ∧ Aside0 (w'.heap[gb470]? = some (.cells #[.int .i64 ((rd_T24 l0 x22_1).f0), .int .i64 ((rd_T24 l0 x22_1).f1), .int .i64 ((rd_T24 l0 x22_1).f2), .int .i64 ((rd_T24 l0 x22_1).f3), .string ((rd_T24 l0 x22_1).f4)] 24 (0, 0))) ∧ Aside0 (Below w.heap.size w w'))
     case atStart => exact ⟨(x4_1), (0), (0), (by first | rfl | (simp; done) | (simp [*]; done)), (by first | rfl | (simp; done) | (simp [*]; done)), (by first | rfl | (simp; done) | (simp [*]; done)), H', ⟨Nat.le_refl _⟩, ⟨by (with_reducible repeat (first | apply Kd.R_alloc | apply Kd.R_drewN | apply Kd.R_drew)); exact HO474.out⟩, ⟨by (with_reducible repeat (first | refine blk_drewN ?_ _ | refine blk_drew ?_ | refine blk_alloc ?_ _)); exact BK470.out⟩, ⟨by repeat (first | (with_reducible first | exact HB.out | apply below_alloc | apply pw_below_drewN | apply below_drew1 | refine below_set ?_ GE470.out) | exact HB.out)⟩⟩
     case round =>
      clear H'
      try clear c1
      try clear p2
      try clear c4
      try clear p4
      try clear q4
      try clear hx4
      try clear c7
      try clear c7b0
      try clear c8
      try clear c8b0
      try clear c9
      try clear c9b0
      try clear c11
      try clear c11b0
      try clear c11b1
      try clear hcz13_0
      try clear hcz13_1
      try clear hcz13_2
      try clear hcz13_3
      try clear hcz13_4
      try clear hfz13_0
      try clear hfz13_1
      try clear hfz13_2
      try clear hfz13_3
      try clear hfz13_4
      try clear hx469_0
      try clear hx469_1
      try clear hx469_2
      try clear hx469_3
      try clear hx469_4
      try clear p2
      try clear p469
      try clear q469
      obtain ⟨x4_2, x9_2, x37_2, rfl, rfl, rfl, HA, HK2, HO_35, BK470, HB⟩ := hrel
      cases gk with
      | zero => exact absurd HA.out (by simp [formelaw10_TreeKids.l1])
      | succ k2 =>
       have H := HA.out
       clear HA
       simp only [formelaw10_TreeKids.l1] at H
       by_cases c16 : x37_2 < (t471.length : Int)
       ·rw [if_pos c16] at H
        have c16b0 : decide (x37_2 < (t471.length : Int)) = true := decide_eq_true c16
        clear c16
        by_cases c17 : 0 ≤ x37_2
        rotate_left
        ·rw [if_neg c17] at H; exact absurd H (by simp)
        rw [if_pos c17] at H
        have c17b0 : decide (0 ≤ x37_2) = true := decide_eq_true c17
        clear c17
        by_cases c18 : x37_2 < (t471.length : Int)
        rotate_left
        ·rw [if_neg c18] at H; exact absurd H (by simp)
        rw [if_pos c18] at H
        have c18b0 : decide (x37_2 < (t471.length : Int)) = true := decide_eq_true c18
        clear c18
        replace H := Option.bind_eq_some_iff.mp H
        obtain ⟨⟨t476, t477, t478⟩, A190, H⟩ := H
        try dsimp only at H
        have A19 := Aside0.mk A190
        clear A190
        by_cases c20 : t478 = 0
        rotate_left
        ·rw [if_neg c20] at H; exact absurd H (by simp)
        rw [if_pos c20] at H
        have c20b0 : (t478 == 0) = true := beq_iff_eq.mpr c20
        have c20b1 : (t478 != 0) = false := bne_eq_false_iff_eq.mpr c20
        clear c20
        by_cases c21 : t477 = true
        ·subst c21
         have H1 : (if t476 ≤ x9_2 then (none) else (if t476 ≥ (l0.length : Int) then (none) else (if 0 ≤ t476 then (if t476 < (l0.length : Int) then (if ((rd_T24 l0 t476).f1) = ((rd_T24 l0 x22_1).f0) then (if ((rd_T24 l0 t476).f0) = (rd t471 x37_2) then (formelaw10_TreeKids.l1 k2 l0 t467 (wrap64 (x4_2 + 1)) t476 l0 (l0.length : Int) x22_1 t471 (t471.length : Int) (wrap64 (x37_2 + 1)) ((rd_T24 l0 x22_1).f0) ((rd_T24 l0 x22_1).f1) ((rd_T24 l0 x22_1).f2) ((rd_T24 l0 x22_1).f3) ((rd_T24 l0 x22_1).f4)) else (none)) else (none)) else (none)) else (none)))) = some r := by rw [if_pos rfl] at H; exact H
         clear H
         have H := H1
         clear H1
         by_cases c22 : t476 ≤ x9_2
         ·rw [if_pos c22] at H
          exact absurd H (by simp)
         ·rw [if_neg c22] at H
          have c22b0 : decide (t476 ≤ x9_2) = false := decide_eq_false c22
          clear c22
          by_cases c23 : t476 ≥ (l0.length : Int)
          ·rw [if_pos c23] at H
           exact absurd H (by simp)
          ·rw [if_neg c23] at H
           have c23b0 : decide ((l0.length : Int) ≤ t476) = false := decide_eq_false c23
           clear c23
           by_cases c24 : 0 ≤ t476
           rotate_left
           ·rw [if_neg c24] at H; exact absurd H (by simp)
           rw [if_pos c24] at H
           have c24b0 : decide (0 ≤ t476) = true := decide_eq_true c24
           clear c24
           by_cases c25 : t476 < (l0.length : Int)
           rotate_left
           ·rw [if_neg c25] at H; exact absurd H (by simp)
           rw [if_pos c25] at H
           have c25b0 : decide (t476 < (l0.length : Int)) = true := decide_eq_true c25
           clear c25
           by_cases c26 : ((rd_T24 l0 t476).f1) = ((rd_T24 l0 x22_1).f0)
           rotate_left
           ·rw [if_neg c26] at H; exact absurd H (by simp)
           rw [if_pos c26] at H
           have c26b0 : (((rd_T24 l0 t476).f1) == ((rd_T24 l0 x22_1).f0)) = true := beq_iff_eq.mpr c26
           have c26b1 : (((rd_T24 l0 t476).f1) != ((rd_T24 l0 x22_1).f0)) = false := bne_eq_false_iff_eq.mpr c26
           clear c26
           by_cases c27 : ((rd_T24 l0 t476).f0) = (rd t471 x37_2)
           rotate_left
           ·rw [if_neg c27] at H; exact absurd H (by simp)
           rw [if_pos c27] at H
           have c27b0 : (((rd_T24 l0 t476).f0) == (rd t471 x37_2)) = true := beq_iff_eq.mpr c27
           have c27b1 : (((rd_T24 l0 t476).f0) != (rd t471 x37_2)) = false := bne_eq_false_iff_eq.mpr c27
           clear c27
           have H' := Aside0.mk H
           clear H
           have p475 : 0 ≤ (x37_2 : Int) := of_decide_eq_true (by first | (with_reducible assumption) | assumption)
           have q475 : x37_2 < (t471.length : Int) := of_decide_eq_true (by first | (with_reducible assumption) | assumption)
           obtain ⟨ad475, e475, hx475_0⟩ := Kd.at_int (Kd.R_reads' HO_35.out).2.2 x37_2 p475 q475
           cases e475
           replace p475 := eq_true p475
           replace q475 := eq_true q475
           go_wp2_with (first | (go_at_call 11; (with_reducible refine (tree_Find.calls _ _ l0 (rd t471 x37_2) t476 true t478 _ ?side1 ?side2 A19.out).mono ?_); (case side1 => repeat (first | exact (Kd.C_below HR0.out HB.out) | (with_reducible refine Kd.C_alloc ?_ _) | (with_reducible refine Kd.C_drewN ?_ _) | (with_reducible refine Kd.C_drew ?_))); (case side2 => exact HC0.out); rintro e w28 ⟨rfl, hb⟩; have n0_ := Aside0.mk (Kd.R_below (by (with_reducible repeat (first | apply Kd.R_alloc | apply Kd.R_drewN | apply Kd.R_drew)); exact HO_35.out) hb); have n1_ := Aside0.mk (blk_below (g := gb470) (o := .cells #[.int .i64 ((rd_T24 l0 x22_1).f0), .int .i64 ((rd_T24 l0 x22_1).f1), .int .i64 ((rd_T24 l0 x22_1).f2), .int .i64 ((rd_T24 l0 x22_1).f3), .string ((rd_T24 l0 x22_1).f4)] 24 (0, 0)) (by (with_reducible repeat (first | refine blk_drewN ?_ _ | refine blk_drew ?_ | refine blk_alloc ?_ _)); exact BK470.out) hb); have n2_ := Aside0.mk (below_step (by repeat (first | (with_reducible first | exact HB.out | apply below_alloc | apply pw_below_drewN | apply below_drew1 | refine below_set ?_ GE470.out) | exact HB.out)) hb); clear HO_35; clear BK470; clear HB; have HO_35 := n0_; have BK470 := n1_; have HB := n2_; clear n0_ n1_ n2_; (try clear hb); (try clear hb2); (try clear hk); (try clear hi); have p479 : 0 ≤ (t476 : Int) := of_decide_eq_true (by first | (with_reducible assumption) | assumption); have q479 : t476 < (l0.length : Int) := of_decide_eq_true (by first | (with_reducible assumption) | assumption); obtain ⟨ad479, e479, hx479_0, hx479_1, hx479_2, hx479_3, hx479_4⟩ := at_T24 HR0.out t476 p479 q479; obtain rfl : ad469 = ad479 := (by injection e479); replace hx479_0 := (HB.out.cell (World.block_lt_of_cell? w _ hx479_0)).trans hx479_0; replace hx479_1 := (HB.out.cell (World.block_lt_of_cell? w _ hx479_1)).trans hx479_1; replace hx479_2 := (HB.out.cell (World.block_lt_of_cell? w _ hx479_2)).trans hx479_2; replace hx479_3 := (HB.out.cell (World.block_lt_of_cell? w _ hx479_3)).trans hx479_3; replace hx479_4 := (HB.out.cell (World.block_lt_of_cell? w _ hx479_4)).trans hx479_4; replace p479 := eq_true p479; replace q479 := eq_true q479; have hcz29_0 : w28.cell? ⟨gb470, 0, none⟩ = some (.int .i64 ((rd_T24 l0 x22_1).f0)) := (blk_cell BK470.out 0).trans rfl; have hcz29_1 : w28.cell? ⟨gb470, 1, none⟩ = some (.int .i64 ((rd_T24 l0 x22_1).f1)) := (blk_cell BK470.out 1).trans rfl; have hcz29_2 : w28.cell? ⟨gb470, 2, none⟩ = some (.int .i64 ((rd_T24 l0 x22_1).f2)) := (blk_cell BK470.out 2).trans rfl; have hcz29_3 : w28.cell? ⟨gb470, 3, none⟩ = some (.int .i64 ((rd_T24 l0 x22_1).f3)) := (blk_cell BK470.out 3).trans rfl; have hcz29_4 : w28.cell? ⟨gb470, 4, none⟩ = some (.string ((rd_T24 l0 x22_1).f4)) := (blk_cell BK470.out 4).trans rfl; have hfz29_0 := blk_frozen BK470.out 0; have hfz29_1 := blk_frozen BK470.out 1; have hfz29_2 := blk_frozen BK470.out 2; have hfz29_3 := blk_frozen BK470.out 3; have hfz29_4 := blk_frozen BK470.out 4; have p480 : 0 ≤ (t476 : Int) := of_decide_eq_true (by first | (with_reducible assumption) | assumption); have q480 : t476 < (l0.length : Int) := of_decide_eq_true (by first | (with_reducible assumption) | assumption); obtain ⟨ad480, e480, hx480_0, hx480_1, hx480_2, hx480_3, hx480_4⟩ := at_T24 HR0.out t476 p480 q480; obtain rfl : ad469 = ad480 := (by injection e480); replace hx480_0 := (HB.out.cell (World.block_lt_of_cell? w _ hx480_0)).trans hx480_0; replace hx480_1 := (HB.out.cell (World.block_lt_of_cell? w _ hx480_1)).trans hx480_1; replace hx480_2 := (HB.out.cell (World.block_lt_of_cell? w _ hx480_2)).trans hx480_2; replace hx480_3 := (HB.out.cell (World.block_lt_of_cell? w _ hx480_3)).trans hx480_3; replace hx480_4 := (HB.out.cell (World.block_lt_of_cell? w _ hx480_4)).trans hx480_4; replace p480 := eq_true p480; replace q480 := eq_true q480))
           repeat (go_quiet (first | (go_at_call 11; (with_reducible refine (tree_Find.calls _ _ l0 (rd t471 x37_2) t476 true t478 _ ?side1 ?side2 A19.out).mono ?_); (case side1 => repeat (first | exact (Kd.C_below HR0.out HB.out) | (with_reducible refine Kd.C_alloc ?_ _) | (with_reducible refine Kd.C_drewN ?_ _) | (with_reducible refine Kd.C_drew ?_))); (case side2 => exact HC0.out); rintro e w28 ⟨rfl, hb⟩; have n0_ := Aside0.mk (Kd.R_below (by (with_reducible repeat (first | apply Kd.R_alloc | apply Kd.R_drewN | apply Kd.R_drew)); exact HO_35.out) hb); have n1_ := Aside0.mk (blk_below (g := gb470) (o := .cells #[.int .i64 ((rd_T24 l0 x22_1).f0), .int .i64 ((rd_T24 l0 x22_1).f1), .int .i64 ((rd_T24 l0 x22_1).f2), .int .i64 ((rd_T24 l0 x22_1).f3), .string ((rd_T24 l0 x22_1).f4)] 24 (0, 0)) (by (with_reducible repeat (first | refine blk_drewN ?_ _ | refine blk_drew ?_ | refine blk_alloc ?_ _)); exact BK470.out) hb); have n2_ := Aside0.mk (below_step (by repeat (first | (with_reducible first | exact HB.out | apply below_alloc | apply pw_below_drewN | apply below_drew1 | refine below_set ?_ GE470.out) | exact HB.out)) hb); clear HO_35; clear BK470; clear HB; have HO_35 := n0_; have BK470 := n1_; have HB := n2_; clear n0_ n1_ n2_; (try clear hb); (try clear hb2); (try clear hk); (try clear hi); have p479 : 0 ≤ (t476 : Int) := of_decide_eq_true (by first | (with_reducible assumption) | assumption); have q479 : t476 < (l0.length : Int) := of_decide_eq_true (by first | (with_reducible assumption) | assumption); obtain ⟨ad479, e479, hx479_0, hx479_1, hx479_2, hx479_3, hx479_4⟩ := at_T24 HR0.out t476 p479 q479; obtain rfl : ad469 = ad479 := (by injection e479); replace hx479_0 := (HB.out.cell (World.block_lt_of_cell? w _ hx479_0)).trans hx479_0; replace hx479_1 := (HB.out.cell (World.block_lt_of_cell? w _ hx479_1)).trans hx479_1; replace hx479_2 := (HB.out.cell (World.block_lt_of_cell? w _ hx479_2)).trans hx479_2; replace hx479_3 := (HB.out.cell (World.block_lt_of_cell? w _ hx479_3)).trans hx479_3; replace hx479_4 := (HB.out.cell (World.block_lt_of_cell? w _ hx479_4)).trans hx479_4; replace p479 := eq_true p479; replace q479 := eq_true q479; have hcz29_0 : w28.cell? ⟨gb470, 0, none⟩ = some (.int .i64 ((rd_T24 l0 x22_1).f0)) := (blk_cell BK470.out 0).trans rfl; have hcz29_1 : w28.cell? ⟨gb470, 1, none⟩ = some (.int .i64 ((rd_T24 l0 x22_1).f1)) := (blk_cell BK470.out 1).trans rfl; have hcz29_2 : w28.cell? ⟨gb470, 2, none⟩ = some (.int .i64 ((rd_T24 l0 x22_1).f2)) := (blk_cell BK470.out 2).trans rfl; have hcz29_3 : w28.cell? ⟨gb470, 3, none⟩ = some (.int .i64 ((rd_T24 l0 x22_1).f3)) := (blk_cell BK470.out 3).trans rfl; have hcz29_4 : w28.cell? ⟨gb470, 4, none⟩ = some (.string ((rd_T24 l0 x22_1).f4)) := (blk_cell BK470.out 4).trans rfl; have hfz29_0 := blk_frozen BK470.out 0; have hfz29_1 := blk_frozen BK470.out 1; have hfz29_2 := blk_frozen BK470.out 2; have hfz29_3 := blk_frozen BK470.out 3; have hfz29_4 := blk_frozen BK470.out 4; have p480 : 0 ≤ (t476 : Int) := of_decide_eq_true (by first | (with_reducible assumption) | assumption); have q480 : t476 < (l0.length : Int) := of_decide_eq_true (by first | (with_reducible assumption) | assumption); obtain ⟨ad480, e480, hx480_0, hx480_1, hx480_2, hx480_3, hx480_4⟩ := at_T24 HR0.out t476 p480 q480; obtain rfl : ad469 = ad480 := (by injection e480); replace hx480_0 := (HB.out.cell (World.block_lt_of_cell? w _ hx480_0)).trans hx480_0; replace hx480_1 := (HB.out.cell (World.block_lt_of_cell? w _ hx480_1)).trans hx480_1; replace hx480_2 := (HB.out.cell (World.block_lt_of_cell? w _ hx480_2)).trans hx480_2; replace hx480_3 := (HB.out.cell (World.block_lt_of_cell? w _ hx480_3)).trans hx480_3; replace hx480_4 := (HB.out.cell (World.block_lt_of_cell? w _ hx480_4)).trans hx480_4; replace p480 := eq_true p480; replace q480 := eq_true q480)); try go_wp2_with (first | (go_at_call 11; (with_reducible refine (tree_Find.calls _ _ l0 (rd t471 x37_2) t476 true t478 _ ?side1 ?side2 A19.out).mono ?_); (case side1 => repeat (first | exact (Kd.C_below HR0.out HB.out) | (with_reducible refine Kd.C_alloc ?_ _) | (with_reducible refine Kd.C_drewN ?_ _) | (with_reducible refine Kd.C_drew ?_))); (case side2 => exact HC0.out); rintro e w28 ⟨rfl, hb⟩; have n0_ := Aside0.mk (Kd.R_below (by (with_reducible repeat (first | apply Kd.R_alloc | apply Kd.R_drewN | apply Kd.R_drew)); exact HO_35.out) hb); have n1_ := Aside0.mk (blk_below (g := gb470) (o := .cells #[.int .i64 ((rd_T24 l0 x22_1).f0), .int .i64 ((rd_T24 l0 x22_1).f1), .int .i64 ((rd_T24 l0 x22_1).f2), .int .i64 ((rd_T24 l0 x22_1).f3), .string ((rd_T24 l0 x22_1).f4)] 24 (0, 0)) (by (with_reducible repeat (first | refine blk_drewN ?_ _ | refine blk_drew ?_ | refine blk_alloc ?_ _)); exact BK470.out) hb); have n2_ := Aside0.mk (below_step (by repeat (first | (with_reducible first | exact HB.out | apply below_alloc | apply pw_below_drewN | apply below_drew1 | refine below_set ?_ GE470.out) | exact HB.out)) hb); clear HO_35; clear BK470; clear HB; have HO_35 := n0_; have BK470 := n1_; have HB := n2_; clear n0_ n1_ n2_; (try clear hb); (try clear hb2); (try clear hk); (try clear hi); have p479 : 0 ≤ (t476 : Int) := of_decide_eq_true (by first | (with_reducible assumption) | assumption); have q479 : t476 < (l0.length : Int) := of_decide_eq_true (by first | (with_reducible assumption) | assumption); obtain ⟨ad479, e479, hx479_0, hx479_1, hx479_2, hx479_3, hx479_4⟩ := at_T24 HR0.out t476 p479 q479; obtain rfl : ad469 = ad479 := (by injection e479); replace hx479_0 := (HB.out.cell (World.block_lt_of_cell? w _ hx479_0)).trans hx479_0; replace hx479_1 := (HB.out.cell (World.block_lt_of_cell? w _ hx479_1)).trans hx479_1; replace hx479_2 := (HB.out.cell (World.block_lt_of_cell? w _ hx479_2)).trans hx479_2; replace hx479_3 := (HB.out.cell (World.block_lt_of_cell? w _ hx479_3)).trans hx479_3; replace hx479_4 := (HB.out.cell (World.block_lt_of_cell? w _ hx479_4)).trans hx479_4; replace p479 := eq_true p479; replace q479 := eq_true q479; have hcz29_0 : w28.cell? ⟨gb470, 0, none⟩ = some (.int .i64 ((rd_T24 l0 x22_1).f0)) := (blk_cell BK470.out 0).trans rfl; have hcz29_1 : w28.cell? ⟨gb470, 1, none⟩ = some (.int .i64 ((rd_T24 l0 x22_1).f1)) := (blk_cell BK470.out 1).trans rfl; have hcz29_2 : w28.cell? ⟨gb470, 2, none⟩ = some (.int .i64 ((rd_T24 l0 x22_1).f2)) := (blk_cell BK470.out 2).trans rfl; have hcz29_3 : w28.cell? ⟨gb470, 3, none⟩ = some (.int .i64 ((rd_T24 l0 x22_1).f3)) := (blk_cell BK470.out 3).trans rfl; have hcz29_4 : w28.cell? ⟨gb470, 4, none⟩ = some (.string ((rd_T24 l0 x22_1).f4)) := (blk_cell BK470.out 4).trans rfl; have hfz29_0 := blk_frozen BK470.out 0; have hfz29_1 := blk_frozen BK470.out 1; have hfz29_2 := blk_frozen BK470.out 2; have hfz29_3 := blk_frozen BK470.out 3; have hfz29_4 := blk_frozen BK470.out 4; have p480 : 0 ≤ (t476 : Int) := of_decide_eq_true (by first | (with_reducible assumption) | assumption); have q480 : t476 < (l0.length : Int) := of_decide_eq_true (by first | (with_reducible assumption) | assumption); obtain ⟨ad480, e480, hx480_0, hx480_1, hx480_2, hx480_3, hx480_4⟩ := at_T24 HR0.out t476 p480 q480; obtain rfl : ad469 = ad480 := (by injection e480); replace hx480_0 := (HB.out.cell (World.block_lt_of_cell? w _ hx480_0)).trans hx480_0; replace hx480_1 := (HB.out.cell (World.block_lt_of_cell? w _ hx480_1)).trans hx480_1; replace hx480_2 := (HB.out.cell (World.block_lt_of_cell? w _ hx480_2)).trans hx480_2; replace hx480_3 := (HB.out.cell (World.block_lt_of_cell? w _ hx480_3)).trans hx480_3; replace hx480_4 := (HB.out.cell (World.block_lt_of_cell? w _ hx480_4)).trans hx480_4; replace p480 := eq_true p480; replace q480 := eq_true q480)))
           go_roundg k2
           case measure => have := HK1.out; have := HK2.out; omega
           case rel => exact ⟨(wrap64 (x4_2 + 1)), (t476), (wrap64 (x37_2 + 1)), (by first | rfl | (simp; done) | (simp [*]; done)), (by first | rfl | (simp; done) | (simp [*]; done)), (by first | rfl | (simp; done) | (simp [*]; done)), H', ⟨by have := HK1.out; have := HK2.out; omega⟩, ⟨by (with_reducible repeat (first | apply Kd.R_alloc | apply Kd.R_drewN | apply Kd.R_drew)); exact HO_35.out⟩, ⟨by (with_reducible repeat (first | refine blk_drewN ?_ _ | refine blk_drew ?_ | refine blk_alloc ?_ _)); exact BK470.out⟩, ⟨by repeat (first | (with_reducible first | exact HB.out | apply below_alloc | apply pw_below_drewN | apply below_drew1 | refine below_set ?_ GE470.out) | exact HB.out)⟩⟩
        ·replace c21 := Bool.eq_false_iff.mpr c21
         subst c21
         have H1 : (none) = some r := by rw [if_neg (show ¬ (false = true) by decide)] at H; exact H
         clear H
         have H := H1
         clear H1
         exact absurd H (by simp)
       ·rw [if_neg c16] at H
        have c16b0 : decide (x37_2 < (t471.length : Int)) = false := decide_eq_false c16
        clear c16
        have H' := Aside0.mk H
        clear H
        go_wp2
        repeat (go_quiet (fail); try go_wp2)
        go_roundg k2
        case measure => have := HK1.out; have := HK2.out; omega
        case rel => exact ⟨(x4_2), (wrap64 (x22_1 + 1)), (by first | rfl | (simp; done) | (simp [*]; done)), (by first | rfl | (simp; done) | (simp [*]; done)), H', ⟨by have := HK1.out; have := HK2.out; omega⟩, ⟨by repeat (first | (with_reducible first | exact HB.out | apply below_alloc | apply pw_below_drewN | apply below_drew1 | refine below_set ?_ GE470.out) | exact HB.out)⟩⟩
    ·rw [if_neg c7] at H
     have c7b0 : decide (x22_1 < (l0.length : Int)) = false := decide_eq_false c7
     clear c7
     by_cases c30 : t467 = true
     ·subst c30
      have H1 : (some (x4_1 == (wrap64 ((l0.length : Int) - 1)))) = some r := by rw [if_pos rfl] at H; exact H
      clear H
      have H := H1
      clear H1
      obtain rfl := Option.some.inj H
      go_wp2
      repeat (go_quiet (fail); try go_wp2)
      go_ret
      exact ⟨by first | rfl | (simp [errW_none, errW_some] <;> rfl) | (simp [*, errW_none, errW_some] <;> rfl), by repeat (first | (with_reducible first | exact HB.out | apply below_alloc | apply pw_below_drewN | apply below_drew1) | exact HB.out)⟩
     ·replace c30 := Bool.eq_false_iff.mpr c30
      subst c30
      have H1 : (none) = some r := by rw [if_neg (show ¬ (false = true) by decide)] at H; exact H
      clear H
      have H := H1
      clear H1
      exact absurd H (by simp)
 ·replace c4 := Bool.eq_false_iff.mpr c4
  subst c4
  have H1 : (some t467) = some r := by rw [if_neg (show ¬ (false = true) by decide)] at H; exact H
  clear H
  have H := H1
  clear H1
  obtain rfl := Option.some.inj H
  go_enter Try.func4, Try.ntmps4
  go_wp2_with (first | (go_at_call 9; (with_reducible refine (formelaw10_head.calls k  t467 _ A2.out).mono ?_); rintro e w31 ⟨rfl, hb⟩; have n0_ := Aside0.mk (below_step (by repeat (first | (with_reducible first | exact HB.out | apply below_alloc | apply pw_below_drewN | apply below_drew1) | exact HB.out)) hb); clear HB; have HB := n0_; clear n0_; (try clear hb); (try clear hb2); (try clear hk); (try clear hi)) | (go_at_call 27; (with_reducible refine (formelaw10_usable.calls k _ _ l0 false _ ?side1 ?side2 A3.out).mono ?_); (case side1 => repeat (first | exact (Kd.C_below HR0.out HB.out) | (with_reducible refine Kd.C_alloc ?_ _) | (with_reducible refine Kd.C_drewN ?_ _) | (with_reducible refine Kd.C_drew ?_))); (case side2 => exact HC0.out); rintro e w32 ⟨rfl, hb⟩; have n0_ := Aside0.mk (below_step (by repeat (first | (with_reducible first | exact HB.out | apply below_alloc | apply pw_below_drewN | apply below_drew1) | exact HB.out)) hb); clear HB; have HB := n0_; clear n0_; (try clear hb); (try clear hb2); (try clear hk); (try clear hi)))
  repeat (go_quiet (first | (go_at_call 9; (with_reducible refine (formelaw10_head.calls k  t467 _ A2.out).mono ?_); rintro e w31 ⟨rfl, hb⟩; have n0_ := Aside0.mk (below_step (by repeat (first | (with_reducible first | exact HB.out | apply below_alloc | apply pw_below_drewN | apply below_drew1) | exact HB.out)) hb); clear HB; have HB := n0_; clear n0_; (try clear hb); (try clear hb2); (try clear hk); (try clear hi)) | (go_at_call 27; (with_reducible refine (formelaw10_usable.calls k _ _ l0 false _ ?side1 ?side2 A3.out).mono ?_); (case side1 => repeat (first | exact (Kd.C_below HR0.out HB.out) | (with_reducible refine Kd.C_alloc ?_ _) | (with_reducible refine Kd.C_drewN ?_ _) | (with_reducible refine Kd.C_drew ?_))); (case side2 => exact HC0.out); rintro e w32 ⟨rfl, hb⟩; have n0_ := Aside0.mk (below_step (by repeat (first | (with_reducible first | exact HB.out | apply below_alloc | apply pw_below_drewN | apply below_drew1) | exact HB.out)) hb); clear HB; have HB := n0_; clear n0_; (try clear hb); (try clear hb2); (try clear hk); (try clear hi))); try go_wp2_with (first | (go_at_call 9; (with_reducible refine (formelaw10_head.calls k  t467 _ A2.out).mono ?_); rintro e w31 ⟨rfl, hb⟩; have n0_ := Aside0.mk (below_step (by repeat (first | (with_reducible first | exact HB.out | apply below_alloc | apply pw_below_drewN | apply below_drew1) | exact HB.out)) hb); clear HB; have HB := n0_; clear n0_; (try clear hb); (try clear hb2); (try clear hk); (try clear hi)) | (go_at_call 27; (with_reducible refine (formelaw10_usable.calls k _ _ l0 false _ ?side1 ?side2 A3.out).mono ?_); (case side1 => repeat (first | exact (Kd.C_below HR0.out HB.out) | (with_reducible refine Kd.C_alloc ?_ _) | (with_reducible refine Kd.C_drewN ?_ _) | (with_reducible refine Kd.C_drew ?_))); (case side2 => exact HC0.out); rintro e w32 ⟨rfl, hb⟩; have n0_ := Aside0.mk (below_step (by repeat (first | (with_reducible first | exact HB.out | apply below_alloc | apply pw_below_drewN | apply below_drew1) | exact HB.out)) hb); clear HB; have HB := n0_; clear n0_; (try clear hb); (try clear hb2); (try clear hk); (try clear hi))))
  go_ret
  exact ⟨by first | rfl | (simp [errW_none, errW_some] <;> rfl) | (simp [*, errW_none, errW_some] <;> rfl), by repeat (first | (with_reducible first | exact HB.out | apply below_alloc | apply pw_below_drewN | apply below_drew1) | exact HB.out)⟩
end Go.Proofs.Ytpafhhgoldenoaa.P
end
section
namespace Go.Proofs.Ytpafhhgoldenoaa.P
open Go.RowKit Go.Proofs.YtpafhhgoldenoaaW.PrintWords Go.Proofs.YtpafhhgoldenoaaW.PrintLast Go.Proofs.YtpafhhgoldenoaaW.PrintMore
open Go.Proofs.Ytpafhhgoldenoaa.XM
set_option linter.unusedVariables false
set_option linter.unusedSimpArgs false
variable {l : List S24} {ds : Nat → Int} {D : Places}
theorem find_at (hD : placesP l = some D) (T : TreeAt l ds) (P : PAt l ds l.length D) {j : Nat} (hj : j < l.length) : findP l (nd l j).f0 = ((j : Int), true, 0) := by
 have hid := (idB_iff _).2 (T.id hj)
 unfold findP
 rw [hD]
 simp only [hid, if_true, P.1 j hj]
 simp
theorem get_at (hD : placesP l = some D) (T : TreeAt l ds) (P : PAt l ds l.length D) {j : Nat} (hj : j < l.length) : tree_get.f l (nd l j).f0 = some ((j : Int), 0) := by
 unfold tree_get.f tree_Find.f
 rw [find_at hD T P hj]
 simp
theorem kids_ev (l : List S24) (a : Int) (hl : l.length ≤ 4000) : Ev (fun k => tree_kids.f k l a) (kidsL l a) := by
 refine ⟨l.length + 1, fun k hk => ?_⟩
 unfold tree_kids.f
 exact kids_go l a hl l.length k [] 0 (by omega) (by omega) (by simp) (by omega)
theorem Kids_at (hD : placesP l = some D) (T : TreeAt l ds) (P : PAt l ds l.length D) {j : Nat} (hj : j < l.length) : Ev (fun k => tree_Kids.f k l (nd l j).f0) (kidsL l (nd l j).f0, 0) := by
 unfold tree_Kids.f
 rw [get_at hD T P hj]
 simp only [Option.bind_some, if_true]
 exact Ev.bind (kids_ev l _ T.len) (Ev.now _)
theorem kidsL_next (l : List S24) (a : Int) : ∀ (d m : Nat), m ≤ l.length → l.length - m ≤ d → ∀ x r, kidsL (l.drop m) a = x :: r →
  ∃ j, m ≤ j ∧ j < l.length ∧ (nd l j).f1 = a ∧ (nd l j).f0 = x ∧ r = kidsL (l.drop (j + 1)) a := by
 intro d
 induction d with
 | zero =>
  intro m hm hd x r h
  obtain rfl : m = l.length := by omega
  simp [kidsL] at h
 | succ d ih =>
  intro m hm hd x r h
  by_cases hlt : m < l.length
  ·rw [drop_nd l m hlt] at h
   by_cases e : (nd l m).f1 = a
   ·have h2 : (nd l m).f0 :: kidsL (l.drop (m + 1)) a = x :: r := by rw [← h]; generalize l.drop (m + 1) = U; simp [kidsL, e]
    injection h2 with h3 h4
    exact ⟨m, Nat.le_refl _, hlt, e, h3, h4.symm⟩
   ·have h2 : kidsL (l.drop (m + 1)) a = x :: r := by rw [← h]; generalize l.drop (m + 1) = U; simp [kidsL, e]
    obtain ⟨j, a1, a2, a3, a4, a5⟩ := ih (m + 1) hlt (by omega) x r h2
    exact ⟨j, by omega, a2, a3, a4, a5⟩
  ·obtain rfl : m = l.length := by omega
   simp [kidsL] at h
theorem rd_drop {ks : List Int} {q : Nat} {x : Int} {r : List Int} (h : ks.drop q = x :: r) : q < ks.length ∧ rd ks q = x ∧ ks.drop (q + 1) = r := by
 have hq : q < ks.length := by
  by_cases c : q < ks.length
  ·exact c
  ·rw [List.drop_eq_nil_of_le (by omega)] at h; cases h
 rw [List.drop_eq_getElem_cons hq] at h
 injection h with h1 h2
 exact ⟨hq, by simp [rd, hq, h1], h2⟩
theorem wrapN (i : Nat) (h : i < 9223372036854775807) : wrap64 ((i : Int) + 1) = ((i : Int) + 1) := by unfold wrap64; omega
theorem kids_l1 (hD : placesP l = some D) (T : TreeAt l ds) (P : PAt l ds l.length D) (hl : l.length ≤ 60) (i : Nat) (ks : List Int) (hks : ks.length ≤ 4000) (up : Bool) :
  ∀ (L : List Int) (q m last seen : Nat), ks.drop q = L → L = kidsL (l.drop m) (nd l i).f0 → last < m → m ≤ l.length → seen ≤ 100000 - L.length → L.length ≤ 100 → ∀ r,
  Ev (fun k => formelaw10_TreeKids.l0 k l up ((seen + L.length : Nat) : Int) l (l.length : Int) (wrap64 ((i : Int) + 1))) r →
  Ev (fun k => formelaw10_TreeKids.l1 k l up (seen : Int) (last : Int) l (l.length : Int) (i : Int) ks (ks.length : Int) (q : Int) (nd l i).f0 (nd l i).f1 (nd l i).f2 (nd l i).f3 (nd l i).f4) r := by
 intro L
 induction L with
 | nil =>
  intro q m last seen h1 h2 h3 h4 h5 h6 r hr
  refine Ev.up ?_
  simp only [formelaw10_TreeKids.l1]
  have : ks.length ≤ q := by simpa using h1
  refine Ev.els (by omega) ?_
  simpa using hr
 | cons x L ih =>
  intro q m last seen h1 h2 h3 h4 h5 h6 r hr
  obtain ⟨hq, hx, h1'⟩ := rd_drop h1
  obtain ⟨j, b1, b2, b3, b4, b5⟩ := kidsL_next l _ l.length m h4 (by omega) x L h2.symm
  refine Ev.up ?_
  simp only [formelaw10_TreeKids.l1]
  refine Ev.thn (by omega) (Ev.thn (by omega) (Ev.thn (by omega) ?_))
  simp only [List.length_cons] at h5 h6 hr
  rw [hx]
  refine Ev.obind (show tree_Find.f l x = some ((j : Int), true, 0) by unfold tree_Find.f; rw [← b4, find_at hD T P b2]) ?_
  refine Ev.thn rfl (Ev.thn rfl (Ev.els (by simp; omega) (Ev.els (by simp; omega) (Ev.thn (by simp) (Ev.thn (by simp; omega) (Ev.thn b3 (Ev.thn b4 ?_)))))))
  rw [wrapN seen (by omega), wrapN q (by omega)]
  have := ih (q + 1) (j + 1) j (seen + 1) h1' b5 (by omega) (by omega) (by omega) (by omega) r (by rw [show seen + 1 + L.length = seen + (L.length + 1) by omega]; exact hr)
  simpa using this
def kidSum (l : List S24) (i : Nat) : Nat := ((l.take i).map (fun n => (kidsL l n.f0).length)).sum
theorem kidSum_succ (l : List S24) (i : Nat) (h : i < l.length) : kidSum l (i + 1) = kidSum l i + (kidsL l (nd l i).f0).length := by
 unfold kidSum
 have e : l.take (i + 1) = l.take i ++ [nd l i] := by
  rw [List.take_succ_eq_append_getElem h]
  simp [rd_T24, h]
 rw [e]
 simp
theorem sum_swap : ∀ (L P : List S24), (P.map (fun p => (kidsL L p.f0).length)).sum = (L.map (fun x => (P.filter (fun p => decide (x.f1 = p.f0))).length)).sum := by
 intro L
 induction L with
 | nil => intro P; induction P with
  | nil => rfl
  | cons p P ih => simp only [List.map_cons, List.sum_cons, ih]; simp [kidsL]
 | cons x L ih =>
  intro P
  simp only [List.map_cons, List.sum_cons, ← ih P]
  clear ih
  induction P with
  | nil => rfl
  | cons p P ih =>
   simp only [List.map_cons, List.sum_cons, ih]
   by_cases e : x.f1 = p.f0
   ·simp [kidsL, e]; omega
   ·simp [kidsL, e]; omega
theorem count_one (T : TreeAt l ds) (a : Int) {k : Nat} (hk : k < l.length) (he : (nd l k).f0 = a) : (l.filter (fun p => decide (a = p.f0))).length = 1 := by
 have after : ∀ (d i : Nat), k < i → i ≤ l.length → l.length - i ≤ d → (l.drop i).filter (fun p => decide (a = p.f0)) = [] := by
  intro d
  induction d with
  | zero => intro i h1 h2 h3; rw [List.drop_eq_nil_of_le (by omega)]; rfl
  | succ d ih =>
   intro i h1 h2 h3
   by_cases hlt : i < l.length
   ·rw [drop_nd l i hlt, List.filter_cons_of_neg (by have := T.ids k i h1 hlt; rw [he] at this; simpa using this)]
    exact ih (i + 1) (by omega) hlt (by omega)
   ·rw [List.drop_eq_nil_of_le (by omega)]; rfl
 have upto : ∀ (d i : Nat), i ≤ k → k - i ≤ d → ((l.drop i).filter (fun p => decide (a = p.f0))).length = 1 := by
  intro d
  induction d with
  | zero =>
   intro i h1 h2
   obtain rfl : i = k := by omega
   rw [drop_nd l i hk, List.filter_cons_of_pos (by simp [he]), after l.length (i + 1) (by omega) hk (by omega)]
   rfl
  | succ d ih =>
   intro i h1 h2
   by_cases hlt : i < k
   ·rw [drop_nd l i (by omega), List.filter_cons_of_neg (by have := T.ids i k hlt hk; rw [he] at this; simpa using fun c => this c.symm)]
    exact ih (i + 1) hlt (by omega)
   ·obtain rfl : i = k := by omega
    rw [drop_nd l i hk, List.filter_cons_of_pos (by simp [he]), after l.length (i + 1) (by omega) hk (by omega)]
    rfl
 simpa using upto k 0 (by omega) (by omega)
theorem kidSum_all (T : TreeAt l ds) : kidSum l l.length = l.length - 1 := by
 unfold kidSum
 rw [List.take_length, sum_swap]
 have rest : ∀ (d i : Nat), 1 ≤ i → i ≤ l.length → l.length - i ≤ d → ((l.drop i).map (fun x => (l.filter (fun p => decide (x.f1 = p.f0))).length)).sum = l.length - i := by
  intro d
  induction d with
  | zero => intro i h1 h2 h3; rw [List.drop_eq_nil_of_le (by omega)]; simp; omega
  | succ d ih =>
   intro i h1 h2 h3
   by_cases hlt : i < l.length
   ·obtain ⟨k, hk, e, _, _⟩ := T.par i hlt (by omega)
    rw [drop_nd l i hlt, List.map_cons, List.sum_cons, ih (i + 1) (by omega) hlt (by omega), count_one T _ (by omega : k < l.length) e]
    omega
   ·rw [List.drop_eq_nil_of_le (by omega)]; simp; omega
 have h0 : l = nd l 0 :: l.drop 1 := by simpa using drop_nd l 0 T.pos
 have hr : (l.filter (fun p => decide ((nd l 0).f1 = p.f0))).length = 0 := by
  rw [T.root.1]
  simp only [List.length_eq_zero_iff, List.filter_eq_nil_iff, decide_eq_true_eq]
  intro p hp c
  obtain ⟨j, hj, rfl⟩ := List.getElem_of_mem hp
  have := T.id hj
  have e : nd l j = l[j] := by simp [rd_T24, hj]
  rw [e] at this
  omega
 have hsum : (l.map (fun x => (l.filter (fun p => decide (x.f1 = p.f0))).length)).sum = ((nd l 0 :: l.drop 1).map (fun x => (l.filter (fun p => decide (x.f1 = p.f0))).length)).sum := congrArg (fun z => (z.map (fun x => (l.filter (fun p => decide (x.f1 = p.f0))).length)).sum) h0
 rw [hsum, List.map_cons, List.sum_cons, hr, rest l.length 1 (by omega) T.pos (by omega)]
 omega
theorem kidSum_le (l : List S24) (hl : l.length ≤ 60) : ∀ i, i ≤ l.length → kidSum l i ≤ i * 60 := by
 intro i
 induction i with
 | zero => intro _; simp [kidSum]
 | succ i ih =>
  intro h
  rw [kidSum_succ l i h]
  have := ih (by omega)
  have := kidsL_len l (nd l i).f0
  omega
theorem kids_l0 (hD : placesP l = some D) (T : TreeAt l ds) (P : PAt l ds l.length D) (hl : l.length ≤ 60) : ∀ (d i : Nat), i ≤ l.length → l.length - i ≤ d →
  Ev (fun k => formelaw10_TreeKids.l0 k l true (kidSum l i : Int) l (l.length : Int) (i : Int)) true := by
 have last : Ev (fun k => formelaw10_TreeKids.l0 k l true (kidSum l l.length : Int) l (l.length : Int) (l.length : Int)) true := by
  refine Ev.up ?_
  simp only [formelaw10_TreeKids.l0]
  refine Ev.els (by omega) (Ev.thn trivial (Ev.const ?_))
  have := T.pos
  rw [kidSum_all T, show wrap64 ((l.length : Int) - 1) = (l.length : Int) - 1 by unfold wrap64; omega]
  simp
  omega
 intro d
 induction d with
 | zero =>
  intro i hi hd
  obtain rfl : i = l.length := by omega
  exact last
 | succ d ih =>
  intro i hi hd
  by_cases hlt : i < l.length
  ·refine Ev.up ?_
   simp only [formelaw10_TreeKids.l0]
   refine Ev.thn (by omega) (Ev.thn (by omega) (Ev.thn (by omega) (Ev.bind (Kids_at hD T P hlt) (Ev.thn rfl ?_))))
   have hk := kidsL_len l (nd l i).f0
   have hs := kidSum_le l hl i (by omega)
   have hroot : kidsL l (nd l i).f0 = kidsL (l.drop 1) (nd l i).f0 := by
    have h0 : l = nd l 0 :: l.drop 1 := by simpa using drop_nd l 0 T.pos
    have hne : ¬ (0 = (nd l i).f0) := by have := T.id hlt; omega
    refine (congrArg (fun z => kidsL z (nd l i).f0) h0).trans ?_
    generalize l.drop 1 = U
    simp [kidsL, T.root.1, hne]
   refine kids_l1 hD T P hl i (kidsL l (nd l i).f0) (by omega) true (kidsL l (nd l i).f0) 0 1 0 (kidSum l i) rfl hroot (by omega) T.pos (by omega) (by omega) true ?_
   rw [w64n i (by omega), ← kidSum_succ l i hlt]
   exact ih (i + 1) hlt (by omega)
  ·obtain rfl : i = l.length := by omega
   exact last
theorem kids_pure (l : List S24) (hs : ∀ j, j < l.length → (nd l j).f4.size ≤ 9223372036854775807) : ∃ k, formelaw10_TreeKids.f k l = some true := by
 refine Ev.rounds (g := fun k => formelaw10_TreeKids.f k l) ?_
 unfold formelaw10_TreeKids.f
 refine Ev.bind head_true ?_
 rcases usable_cases l hs with h | ⟨h, hl, D, ds, hD, T, P⟩
 ·exact Ev.bind h (Ev.els (by simp) (Ev.now _))
 ·exact Ev.bind h (Ev.thn rfl (kids_l0 hD T P hl l.length 0 (by omega) (by omega)))
end Go.Proofs.Ytpafhhgoldenoaa.P
end
section
namespace Go.Proofs.Ytpafhhgoldenoaa.treeKids
open Go.ChangeShapes Go.WideShapes Go.ChangeAt Go.RowKit
open Go.ChangeMaps (open_string shut_string)
open Go.Proofs.Ytpafhhgoldenoaa.P
set_option linter.unusedVariables false
set_option maxRecDepth 100000 in
theorem lifted (os : Os) (started : os.Started) (H : Type) (enc : TypeId × Value → H) :
  ReturnsInHanded {} Try.checked os 4 .any (Rows.treeKidsSpec.pre6 enc Try.prog Try.f4 Rows.treeKidsRow.domain false) (Rows.treeKidsSpec.post enc Try.prog Try.f4 false true false false) := by
 refine returnsInHanded_of_change_sized (C := Try.checked) own started (by kernel_rfl) Try.func4
  (ChangeSpec.witness6 (enc := enc) (C := Try.checked) false ⟨#[], #[.slice none 0 0], []⟩ 8 (by kernel_rfl) (by kernel_rfl) (by kernel_rfl) (by kernel_rfl)) ?_
 intro W base args ds gs before hval0 hW hcnd hsz0 _
 have hval : ∀ (j : Nat) t v, Try.f4.params[j]? = some t → args[j]? = some v → Value.okWide Try.prog W .any base t v := hval0
 have hW' := hW
 obtain ⟨p, q, hA0, hV, rfl, hfz, hnd⟩ := hW
 have hA : DataW.TrodAll enc Try.prog W 0 (fun _ => true) true Try.f4.params.toList args.toList ds p := hA0
 rw [Try.params4] at hA hval
 obtain ⟨v0, vs0, d0, ds0, p0, q0, hargs, rfl, rfl, h0, r0⟩ := trodAll_cons hA
 obtain ⟨rfl, rfl, rfl⟩ := trodAll_nil r0
 obtain rfl : args = #[v0] := by cases args; simp_all
 obtain ⟨rfl, rfl⟩ := trodVars_none hV
 have k0 := h0
 have lt0 : ∀ x ∈ p0, x.block < W.heap.size := by obtain ⟨m, hm⟩ := k0; exact DataW.trod_lt m _ _ _ hm
 obtain ⟨A0, l0, c0, rfl, hr0, hc0, hs0⟩ := open_nodes (hval 0 22 v0 rfl rfl) h0
 clear hA0 hval0 hsz0
 obtain ⟨k, h⟩ := kids_pure l0 (fun j hj => hs0 _ (by simp [rd_T24, hj]))
 refine (formelaw10_TreeKids.calls k A0 c0 l0 true W hr0 hc0 h).mono fun e W' ⟨he, bel⟩ => ?_
 subst he
 exact ⟨_, rfl, _, _, _, [], _, [], hW', trodAll_mk1 (shut_bool Try.underlying4 _), (trodAll_cons_mk (Below.trod laidOut (by kernel_rfl) (of_decide_eq_true (by kernel_rfl)) k0 bel lt0) trodAll_mk0), rfl, bel.frame _, fun h => by cases h⟩
theorem over : Rows.treeKidsRow.holds Try.pinned (OpenSpec.ofChange Rows.treeKidsSpec) :=
 OpenClaim.holds_of_wide 4 Try.f4 rfl rfl rfl rfl rfl rfl rfl ⟨rfl, rfl, rfl, rfl, rfl⟩ rfl rfl rfl rfl rfl (by kernel_rfl) Try.func4 (by kernel_rfl)
  (of_decide_eq_true (by kernel_rfl)) (by unfold Func.isWrapper; first | (rw [if_pos (by decide +kernel)]; kernel_rfl) | (rw [if_neg (by decide +kernel)]; exact ⟨rfl, rfl⟩))
  (fun os started H enc _ => lifted os started H enc)
theorem proved : Rows.TreeKidsSaid := over
#print axioms proved
end Go.Proofs.Ytpafhhgoldenoaa.treeKids
namespace Go.Proofs.Ytpafhhgoldenoaa
theorem treeKids_holds : Rows.TreeKidsSaid := treeKids.proved
end Go.Proofs.Ytpafhhgoldenoaa
end

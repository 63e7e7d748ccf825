import Derived.Test.YtpafhhgoldenoaaPaths5
/- The law of paths holds for every list of nodes and every byte: TreePaths returns true and leaves the list as it was. -/
section
namespace Go.Proofs.Ytpafhhgoldenoaa.P
open Go.RowKit Go.Proofs.YtpafhhgoldenoaaW.PrintWords Go.Proofs.YtpafhhgoldenoaaW.PrintLast Go.Proofs.YtpafhhgoldenoaaW.PrintMore
attribute [local go_sem] max2_int min2_int max_two min_two max_three min_three max_four min_four
set_option linter.unusedVariables false
set_option linter.unusedSimpArgs false
mutual
def formelaw10_TreePaths.j0 : Nat → List (S24) → Bool → List Int → Bool → Option (Bool)
 | 0, _, _, _, _ => none
 | k + 1, x0, x5, x7, x64 => if x64 = true then (none) else (formelaw10_TreePaths.l0 k x0 x5 x7 1)
def formelaw10_TreePaths.l0 : Nat → List (S24) → Bool → List Int → Int → Option (Bool)
 | 0, _, _, _, _ => none
 | k + 1, x0, x5, x7, x9 => if x9 < (x7.length : Int) then (if 0 ≤ x9 then ((tree_Find.f x0 (rd x7 x9)).bind fun bt492 => (if bt492.2.2 = 0 then (if bt492.2.1 = true then (if bt492.1 < 0 then (none) else (if bt492.1 ≥ (x0.length : Int) then (none) else (if 0 ≤ bt492.1 then (if bt492.1 < (x0.length : Int) then (if 0 ≤ (wrap64 (x9 - 1)) then (if (wrap64 (x9 - 1)) < (x7.length : Int) then (if ((rd_T24 x0 bt492.1).f1) = (rd x7 (wrap64 (x9 - 1))) then (formelaw10_TreePaths.l0 k x0 x5 x7 (wrap64 (x9 + 1))) else (none)) else (none)) else (none)) else (none)) else (none)))) else (none)) else (none))) else (none)) else (some x5)
end
def formelaw10_TreePaths.f (k : Nat) (l0 : List (S24)) (a1 : Int) : Option (Bool) := (formelaw10_head.f k).bind fun t481 => ((formelaw10_usable.f k l0).bind fun t482 => (if t482 = true then (if (l0.length : Int) = 0 then (none) else (if 0 ≤ (Int.tmod (wrap64 (a1)) (l0.length : Int)) then (if (Int.tmod (wrap64 (a1)) (l0.length : Int)) < (l0.length : Int) then ((tree_Path.f l0 ((rd_T24 l0 (Int.tmod (wrap64 (a1)) (l0.length : Int))).f0)).bind fun bt484 => (if bt484.2 = 0 then (if (bt484.1.length : Int) < 1 then (formelaw10_TreePaths.j0 k l0 t481 bt484.1 true) else (if (bt484.1.length : Int) > 30 then (formelaw10_TreePaths.j0 k l0 t481 bt484.1 true) else (if 0 < (bt484.1.length : Int) then (if 0 < (l0.length : Int) then (if (rd bt484.1 0) = ((rd_T24 l0 0).f0) then (if 0 ≤ (wrap64 ((bt484.1.length : Int) - 1)) then (if (wrap64 ((bt484.1.length : Int) - 1)) < (bt484.1.length : Int) then (formelaw10_TreePaths.j0 k l0 t481 bt484.1 ((rd bt484.1 (wrap64 ((bt484.1.length : Int) - 1))) != ((rd_T24 l0 (Int.tmod (wrap64 (a1)) (l0.length : Int))).f0))) else (none)) else (none)) else (formelaw10_TreePaths.j0 k l0 t481 bt484.1 true)) else (none)) else (none)))) else (formelaw10_TreePaths.j0 k l0 t481 bt484.1 true))) else (none)) else (none))) else (some t481)))
theorem formelaw10_TreePaths.mono_l : ∀ k, (∀ y0 y1 y2 y3, LeO (formelaw10_TreePaths.j0 k y0 y1 y2 y3) (formelaw10_TreePaths.j0 (k + 1) y0 y1 y2 y3)) ∧ (∀ y0 y1 y2 y3, LeO (formelaw10_TreePaths.l0 k y0 y1 y2 y3) (formelaw10_TreePaths.l0 (k + 1) y0 y1 y2 y3))
 | 0 => ⟨fun _ _ _ _ r h => by simp [formelaw10_TreePaths.j0] at h, fun _ _ _ _ r h => by simp [formelaw10_TreePaths.l0] at h⟩
 | k + 1 => by
  obtain ⟨ih0, ih1⟩ := formelaw10_TreePaths.mono_l k
  refine ⟨?_, ?_⟩
  ·intro y0 y1 y2 y3
   unfold formelaw10_TreePaths.j0
   repeat' first
   | (with_reducible exact ih0 _ _ _ _)
   | (with_reducible exact ih1 _ _ _ _)
   | (with_reducible exact formelaw10_head.mono _)
   | (with_reducible exact formelaw10_usable.mono _ _)
   | (with_reducible exact LeO.refl _)
   | (with_reducible exact LeO.none _)
   | (with_reducible refine LeO.ite ?_ ?_)
   | (with_reducible refine LeO.bind ?_ (fun _ => ?_))
   | exact ih0 _ _ _ _
   | exact ih1 _ _ _ _
   | exact formelaw10_head.mono _
   | exact formelaw10_usable.mono _ _
   | exact LeO.none _
   | refine LeO.ite ?_ ?_
   | refine LeO.bind ?_ (fun _ => ?_)
  ·intro y0 y1 y2 y3
   unfold formelaw10_TreePaths.l0
   repeat' first
   | (with_reducible exact ih0 _ _ _ _)
   | (with_reducible exact ih1 _ _ _ _)
   | (with_reducible exact formelaw10_head.mono _)
   | (with_reducible exact formelaw10_usable.mono _ _)
   | (with_reducible exact LeO.refl _)
   | (with_reducible exact LeO.none _)
   | (with_reducible refine LeO.ite ?_ ?_)
   | (with_reducible refine LeO.bind ?_ (fun _ => ?_))
   | exact ih0 _ _ _ _
   | exact ih1 _ _ _ _
   | exact formelaw10_head.mono _
   | exact formelaw10_usable.mono _ _
   | exact LeO.none _
   | refine LeO.ite ?_ ?_
   | refine LeO.bind ?_ (fun _ => ?_)
theorem formelaw10_TreePaths.mono : ∀ a0 a1 k, LeO (formelaw10_TreePaths.f k a0 a1) (formelaw10_TreePaths.f (k + 1) a0 a1) := by
 intro a0 a1 k
 obtain ⟨ih0, ih1⟩ := formelaw10_TreePaths.mono_l k
 unfold formelaw10_TreePaths.f
 repeat' first
   | (with_reducible exact ih0 _ _ _ _)
   | (with_reducible exact ih1 _ _ _ _)
   | (with_reducible exact formelaw10_head.mono _)
   | (with_reducible exact formelaw10_usable.mono _ _)
   | (with_reducible exact LeO.refl _)
   | (with_reducible exact LeO.none _)
   | (with_reducible refine LeO.ite ?_ ?_)
   | (with_reducible refine LeO.bind ?_ (fun _ => ?_))
   | exact ih0 _ _ _ _
   | exact ih1 _ _ _ _
   | exact formelaw10_head.mono _
   | exact formelaw10_usable.mono _ _
   | exact LeO.none _
   | refine LeO.ite ?_ ?_
   | refine LeO.bind ?_ (fun _ => ?_)
set_option maxHeartbeats 8000000 in
set_option maxRecDepth 100000 in
theorem formelaw10_TreePaths.calls (k : Nat) (A0 : Option Addr) (c0 : Nat) (l0 : List (S24)) (a1 : Int) (r : Bool) (w : World) (hr0 : Kd.C k24 w A0 l0.length l0) (hc0 : l0.length ≤ c0) (h : formelaw10_TreePaths.f k l0 a1 = some r) :
  Calls Try.prog 5 #[.slice A0 l0.length c0, .int .u8 a1] w fun e w' => e = .returned (.bool r) ∧ Below w.heap.size w w' := by
 have HR0 := Aside0.mk hr0
 have HC0 := Aside0.mk hc0
 clear hr0 hc0
 have HB := Aside0.mk (Below.refl w.heap.size w)
 have H : ((formelaw10_head.f k).bind fun t481 => ((formelaw10_usable.f k l0).bind fun t482 => (if t482 = true then (if (l0.length : Int) = 0 then (none) else (if 0 ≤ (Int.tmod (wrap64 (a1)) (l0.length : Int)) then (if (Int.tmod (wrap64 (a1)) (l0.length : Int)) < (l0.length : Int) then ((tree_Path.f l0 ((rd_T24 l0 (Int.tmod (wrap64 (a1)) (l0.length : Int))).f0)).bind fun bt484 => (if bt484.2 = 0 then (if (bt484.1.length : Int) < 1 then (formelaw10_TreePaths.j0 k l0 t481 bt484.1 true) else (if (bt484.1.length : Int) > 30 then (formelaw10_TreePaths.j0 k l0 t481 bt484.1 true) else (if 0 < (bt484.1.length : Int) then (if 0 < (l0.length : Int) then (if (rd bt484.1 0) = ((rd_T24 l0 0).f0) then (if 0 ≤ (wrap64 ((bt484.1.length : Int) - 1)) then (if (wrap64 ((bt484.1.length : Int) - 1)) < (bt484.1.length : Int) then (formelaw10_TreePaths.j0 k l0 t481 bt484.1 ((rd bt484.1 (wrap64 ((bt484.1.length : Int) - 1))) != ((rd_T24 l0 (Int.tmod (wrap64 (a1)) (l0.length : Int))).f0))) else (none)) else (none)) else (formelaw10_TreePaths.j0 k l0 t481 bt484.1 true)) else (none)) else (none)))) else (formelaw10_TreePaths.j0 k l0 t481 bt484.1 true))) else (none)) else (none))) else (some t481)))) = some r := h
 clear h
 replace H := Option.bind_eq_some_iff.mp H
 obtain ⟨t481, A30, H⟩ := H
 try dsimp only at H
 have A3 := Aside0.mk A30
 clear A30
 replace H := Option.bind_eq_some_iff.mp H
 obtain ⟨t482, A40, H⟩ := H
 try dsimp only at H
 have A4 := Aside0.mk A40
 clear A40
 by_cases c5 : t482 = true
 ·subst c5
  have H1 : (if (l0.length : Int) = 0 then (none) else (if 0 ≤ (Int.tmod (wrap64 (a1)) (l0.length : Int)) then (if (Int.tmod (wrap64 (a1)) (l0.length : Int)) < (l0.length : Int) then ((tree_Path.f l0 ((rd_T24 l0 (Int.tmod (wrap64 (a1)) (l0.length : Int))).f0)).bind fun bt484 => (if bt484.2 = 0 then (if (bt484.1.length : Int) < 1 then (formelaw10_TreePaths.j0 k l0 t481 bt484.1 true) else (if (bt484.1.length : Int) > 30 then (formelaw10_TreePaths.j0 k l0 t481 bt484.1 true) else (if 0 < (bt484.1.length : Int) then (if 0 < (l0.length : Int) then (if (rd bt484.1 0) = ((rd_T24 l0 0).f0) then (if 0 ≤ (wrap64 ((bt484.1.length : Int) - 1)) then (if (wrap64 ((bt484.1.length : Int) - 1)) < (bt484.1.length : Int) then (formelaw10_TreePaths.j0 k l0 t481 bt484.1 ((rd bt484.1 (wrap64 ((bt484.1.length : Int) - 1))) != ((rd_T24 l0 (Int.tmod (wrap64 (a1)) (l0.length : Int))).f0))) else (none)) else (none)) else (formelaw10_TreePaths.j0 k l0 t481 bt484.1 true)) else (none)) else (none)))) else (formelaw10_TreePaths.j0 k l0 t481 bt484.1 true))) else (none)) else (none))) = some r := by rw [if_pos rfl] at H; exact H
  clear H
  have H := H1
  clear H1
  by_cases c6 : (l0.length : Int) = 0
  ·rw [if_pos c6] at H
   exact absurd H (by simp)
  ·rw [if_neg c6] at H
   have c6b0 : ((l0.length : Int) == 0) = false := beq_eq_false_iff_ne.mpr c6
   have c6b1 : ((l0.length : Int) != 0) = true := bne_iff_ne.mpr c6
   have c6b2 : ¬ (l0 = []) := fun h_ => c6 (by rw [h_]; rfl)
   obtain ⟨ji7, hji7⟩ : ∃ j_ : Int, (Int.tmod (wrap64 (a1)) (l0.length : Int)) = j_ := ⟨_, rfl⟩
   replace H : (if 0 ≤ (ji7) then (if (ji7) < (l0.length : Int) then ((tree_Path.f l0 ((rd_T24 l0 (ji7)).f0)).bind fun bt484 => (if bt484.2 = 0 then (if (bt484.1.length : Int) < 1 then (formelaw10_TreePaths.j0 k l0 t481 bt484.1 true) else (if (bt484.1.length : Int) > 30 then (formelaw10_TreePaths.j0 k l0 t481 bt484.1 true) else (if 0 < (bt484.1.length : Int) then (if 0 < (l0.length : Int) then (if (rd bt484.1 0) = ((rd_T24 l0 0).f0) then (if 0 ≤ (wrap64 ((bt484.1.length : Int) - 1)) then (if (wrap64 ((bt484.1.length : Int) - 1)) < (bt484.1.length : Int) then (formelaw10_TreePaths.j0 k l0 t481 bt484.1 ((rd bt484.1 (wrap64 ((bt484.1.length : Int) - 1))) != ((rd_T24 l0 (ji7)).f0))) else (none)) else (none)) else (formelaw10_TreePaths.j0 k l0 t481 bt484.1 true)) else (none)) else (none)))) else (formelaw10_TreePaths.j0 k l0 t481 bt484.1 true))) else (none)) else (none)) = some r := by first | (rw [hji7] at H; exact H) | (simp only [hji7] at H ⊢; exact H)
   (try rw [hji7] at A3)
   (try rw [hji7] at A4)
   by_cases c8 : 0 ≤ (ji7)
   rotate_left
   ·rw [if_neg c8] at H; exact absurd H (by simp)
   rw [if_pos c8] at H
   have c8b0 : decide (0 ≤ (ji7)) = true := decide_eq_true c8
   clear c8
   by_cases c9 : (ji7) < (l0.length : Int)
   rotate_left
   ·rw [if_neg c9] at H; exact absurd H (by simp)
   rw [if_pos c9] at H
   have c9b0 : decide ((ji7) < (l0.length : Int)) = true := decide_eq_true c9
   clear c9
   replace H := Option.bind_eq_some_iff.mp H
   obtain ⟨⟨t484, t485⟩, A100, H⟩ := H
   try dsimp only at H
   have A10 := Aside0.mk A100
   clear A100
   have HC11 := Aside0.mk H
   clear H
   go_enter Try.func5, Try.ntmps5
   go_upto_region 6 with (first | (go_at_call 9; (with_reducible refine (formelaw10_head.calls k  t481 _ A3.out).mono ?_); rintro e w12 ⟨rfl, hb⟩; have n0_ := Aside0.mk (below_step (by repeat (first | (with_reducible first | exact HB.out | apply below_alloc | apply pw_below_drewN | apply below_drew1) | exact HB.out)) hb); clear HB; have HB := n0_; clear n0_; (try clear hb); (try clear hb2); (try clear hk); (try clear hi)) | (go_at_call 27; (with_reducible refine (formelaw10_usable.calls k _ _ l0 true _ ?side1 ?side2 A4.out).mono ?_); (case side1 => repeat (first | exact (Kd.C_below HR0.out HB.out) | (with_reducible refine Kd.C_alloc ?_ _) | (with_reducible refine Kd.C_drewN ?_ _) | (with_reducible refine Kd.C_drew ?_))); (case side2 => exact HC0.out); rintro e w13 ⟨rfl, hb⟩; have n0_ := Aside0.mk (below_step (by repeat (first | (with_reducible first | exact HB.out | apply below_alloc | apply pw_below_drewN | apply below_drew1) | exact HB.out)) hb); clear HB; have HB := n0_; clear n0_; (try clear hb); (try clear hb2); (try clear hk); (try clear hi); have p483 : 0 ≤ ((ji7) : Int) := of_decide_eq_true (by first | (with_reducible assumption) | assumption); have q483 : (ji7) < (l0.length : Int) := of_decide_eq_true (by first | (with_reducible assumption) | assumption); obtain ⟨ad483, e483, hx483_0, hx483_1, hx483_2, hx483_3, hx483_4⟩ := at_T24 HR0.out (ji7) p483 q483; cases e483; replace hx483_0 := (HB.out.cell (World.block_lt_of_cell? w _ hx483_0)).trans hx483_0; replace hx483_1 := (HB.out.cell (World.block_lt_of_cell? w _ hx483_1)).trans hx483_1; replace hx483_2 := (HB.out.cell (World.block_lt_of_cell? w _ hx483_2)).trans hx483_2; replace hx483_3 := (HB.out.cell (World.block_lt_of_cell? w _ hx483_3)).trans hx483_3; replace hx483_4 := (HB.out.cell (World.block_lt_of_cell? w _ hx483_4)).trans hx483_4; replace p483 := eq_true p483; replace q483 := eq_true q483) | (go_at_call 18; (with_reducible refine (tree_Path.calls _ _ l0 ((rd_T24 l0 (ji7)).f0) t484 t485 _ ?side1 ?side2 A10.out).mono ?_); (case side1 => repeat (first | exact (Kd.C_below HR0.out HB.out) | (with_reducible refine Kd.C_alloc ?_ _) | (with_reducible refine Kd.C_drewN ?_ _) | (with_reducible refine Kd.C_drew ?_))); (case side2 => exact HC0.out); rintro e w14 ⟨v486, rfl, ho0, hb⟩; have n0_ := Aside0.mk (Kd.R_lower ho0 (below_size (by repeat (first | (with_reducible first | exact HB.out | apply below_alloc | apply pw_below_drewN | apply below_drew1) | exact HB.out)))); have n1_ := Aside0.mk (below_step (by repeat (first | (with_reducible first | exact HB.out | apply below_alloc | apply pw_below_drewN | apply below_drew1) | exact HB.out)) hb); clear HB; have HO487 := n0_; have HB := n1_; clear n0_ n1_; (try clear hb); (try clear hb2); (try clear hk); (try clear hi); (try clear ho0)))
   repeat (go_quiet (first | (go_at_call 9; (with_reducible refine (formelaw10_head.calls k  t481 _ A3.out).mono ?_); rintro e w12 ⟨rfl, hb⟩; have n0_ := Aside0.mk (below_step (by repeat (first | (with_reducible first | exact HB.out | apply below_alloc | apply pw_below_drewN | apply below_drew1) | exact HB.out)) hb); clear HB; have HB := n0_; clear n0_; (try clear hb); (try clear hb2); (try clear hk); (try clear hi)) | (go_at_call 27; (with_reducible refine (formelaw10_usable.calls k _ _ l0 true _ ?side1 ?side2 A4.out).mono ?_); (case side1 => repeat (first | exact (Kd.C_below HR0.out HB.out) | (with_reducible refine Kd.C_alloc ?_ _) | (with_reducible refine Kd.C_drewN ?_ _) | (with_reducible refine Kd.C_drew ?_))); (case side2 => exact HC0.out); rintro e w13 ⟨rfl, hb⟩; have n0_ := Aside0.mk (below_step (by repeat (first | (with_reducible first | exact HB.out | apply below_alloc | apply pw_below_drewN | apply below_drew1) | exact HB.out)) hb); clear HB; have HB := n0_; clear n0_; (try clear hb); (try clear hb2); (try clear hk); (try clear hi); have p483 : 0 ≤ ((ji7) : Int) := of_decide_eq_true (by first | (with_reducible assumption) | assumption); have q483 : (ji7) < (l0.length : Int) := of_decide_eq_true (by first | (with_reducible assumption) | assumption); obtain ⟨ad483, e483, hx483_0, hx483_1, hx483_2, hx483_3, hx483_4⟩ := at_T24 HR0.out (ji7) p483 q483; cases e483; replace hx483_0 := (HB.out.cell (World.block_lt_of_cell? w _ hx483_0)).trans hx483_0; replace hx483_1 := (HB.out.cell (World.block_lt_of_cell? w _ hx483_1)).trans hx483_1; replace hx483_2 := (HB.out.cell (World.block_lt_of_cell? w _ hx483_2)).trans hx483_2; replace hx483_3 := (HB.out.cell (World.block_lt_of_cell? w _ hx483_3)).trans hx483_3; replace hx483_4 := (HB.out.cell (World.block_lt_of_cell? w _ hx483_4)).trans hx483_4; replace p483 := eq_true p483; replace q483 := eq_true q483) | (go_at_call 18; (with_reducible refine (tree_Path.calls _ _ l0 ((rd_T24 l0 (ji7)).f0) t484 t485 _ ?side1 ?side2 A10.out).mono ?_); (case side1 => repeat (first | exact (Kd.C_below HR0.out HB.out) | (with_reducible refine Kd.C_alloc ?_ _) | (with_reducible refine Kd.C_drewN ?_ _) | (with_reducible refine Kd.C_drew ?_))); (case side2 => exact HC0.out); rintro e w14 ⟨v486, rfl, ho0, hb⟩; have n0_ := Aside0.mk (Kd.R_lower ho0 (below_size (by repeat (first | (with_reducible first | exact HB.out | apply below_alloc | apply pw_below_drewN | apply below_drew1) | exact HB.out)))); have n1_ := Aside0.mk (below_step (by repeat (first | (with_reducible first | exact HB.out | apply below_alloc | apply pw_below_drewN | apply below_drew1) | exact HB.out)) hb); clear HB; have HO487 := n0_; have HB := n1_; clear n0_ n1_; (try clear hb); (try clear hb2); (try clear hk); (try clear hi); (try clear ho0))); go_upto_region 6 with (first | (go_at_call 9; (with_reducible refine (formelaw10_head.calls k  t481 _ A3.out).mono ?_); rintro e w12 ⟨rfl, hb⟩; have n0_ := Aside0.mk (below_step (by repeat (first | (with_reducible first | exact HB.out | apply below_alloc | apply pw_below_drewN | apply below_drew1) | exact HB.out)) hb); clear HB; have HB := n0_; clear n0_; (try clear hb); (try clear hb2); (try clear hk); (try clear hi)) | (go_at_call 27; (with_reducible refine (formelaw10_usable.calls k _ _ l0 true _ ?side1 ?side2 A4.out).mono ?_); (case side1 => repeat (first | exact (Kd.C_below HR0.out HB.out) | (with_reducible refine Kd.C_alloc ?_ _) | (with_reducible refine Kd.C_drewN ?_ _) | (with_reducible refine Kd.C_drew ?_))); (case side2 => exact HC0.out); rintro e w13 ⟨rfl, hb⟩; have n0_ := Aside0.mk (below_step (by repeat (first | (with_reducible first | exact HB.out | apply below_alloc | apply pw_below_drewN | apply below_drew1) | exact HB.out)) hb); clear HB; have HB := n0_; clear n0_; (try clear hb); (try clear hb2); (try clear hk); (try clear hi); have p483 : 0 ≤ ((ji7) : Int) := of_decide_eq_true (by first | (with_reducible assumption) | assumption); have q483 : (ji7) < (l0.length : Int) := of_decide_eq_true (by first | (with_reducible assumption) | assumption); obtain ⟨ad483, e483, hx483_0, hx483_1, hx483_2, hx483_3, hx483_4⟩ := at_T24 HR0.out (ji7) p483 q483; cases e483; replace hx483_0 := (HB.out.cell (World.block_lt_of_cell? w _ hx483_0)).trans hx483_0; replace hx483_1 := (HB.out.cell (World.block_lt_of_cell? w _ hx483_1)).trans hx483_1; replace hx483_2 := (HB.out.cell (World.block_lt_of_cell? w _ hx483_2)).trans hx483_2; replace hx483_3 := (HB.out.cell (World.block_lt_of_cell? w _ hx483_3)).trans hx483_3; replace hx483_4 := (HB.out.cell (World.block_lt_of_cell? w _ hx483_4)).trans hx483_4; replace p483 := eq_true p483; replace q483 := eq_true q483) | (go_at_call 18; (with_reducible refine (tree_Path.calls _ _ l0 ((rd_T24 l0 (ji7)).f0) t484 t485 _ ?side1 ?side2 A10.out).mono ?_); (case side1 => repeat (first | exact (Kd.C_below HR0.out HB.out) | (with_reducible refine Kd.C_alloc ?_ _) | (with_reducible refine Kd.C_drewN ?_ _) | (with_reducible refine Kd.C_drew ?_))); (case side2 => exact HC0.out); rintro e w14 ⟨v486, rfl, ho0, hb⟩; have n0_ := Aside0.mk (Kd.R_lower ho0 (below_size (by repeat (first | (with_reducible first | exact HB.out | apply below_alloc | apply pw_below_drewN | apply below_drew1) | exact HB.out)))); have n1_ := Aside0.mk (below_step (by repeat (first | (with_reducible first | exact HB.out | apply below_alloc | apply pw_below_drewN | apply below_drew1) | exact HB.out)) hb); clear HB; have HO487 := n0_; have HB := n1_; clear n0_ n1_; (try clear hb); (try clear hb2); (try clear hk); (try clear hi); (try clear ho0))))
   (try simp only [Act.put, List.setIfInBounds_toArray, List.set_cons_zero, List.set_cons_succ])
   go_cut [64] (fun v64 wc => ∃ (kq : Nat) (x64_10 : Bool), v64 = .bool x64_10 ∧ Aside0 (formelaw10_TreePaths.j0 kq l0 t481 t484 x64_10 = some r) ∧ Aside0 (kq ≤ k) ∧ Aside0 (Kd.R (Kd.int .i64) 3 wc w.heap.size (fun _ => True) v486 t484) ∧ Aside0 (Below w.heap.size w wc))
   case first =>
    have H := HC11.out
    clear HC11
    by_cases c15 : t485 = 0
    ·rw [if_pos c15] at H
     have c15b0 : (t485 == 0) = true := beq_iff_eq.mpr c15
     have c15b1 : (t485 != 0) = false := bne_eq_false_iff_eq.mpr c15
     clear c15
     (first | rw [c15b0] | (simp only [i64_w, i32_w]; rw [c15b0]) | skip)
     by_cases c16 : (t484.length : Int) < 1
     ·rw [if_pos c16] at H
      have c16b0 : decide ((t484.length : Int) < 1) = true := decide_eq_true c16
      have c16b1 : decide (t484.length < 1) = true := decide_eq_true (by omega)
      clear c16
      have H' := Aside0.mk H
      clear H
      obtain ⟨Ao17, co17, eo17⟩ := Kd.R_slice HO487.out
      subst eo17
      go_wp2
      repeat (go_quiet (fail); try go_wp2)
      go_meet
      case rel => exact ⟨_, (true), (by first | rfl | (simp; done) | (simp [*]; done)), H', ⟨by first | omega | exact Nat.le_refl _⟩, ⟨by (with_reducible repeat (first | apply Kd.R_alloc | apply Kd.R_drewN | apply Kd.R_drew)); exact HO487.out⟩, ⟨by repeat (first | (with_reducible first | exact HB.out | apply below_alloc | apply pw_below_drewN | apply below_drew1) | exact HB.out)⟩⟩
     ·rw [if_neg c16] at H
      have c16b0 : decide ((t484.length : Int) < 1) = false := decide_eq_false c16
      have c16b1 : decide (t484.length < 1) = false := decide_eq_false (by omega)
      clear c16
      by_cases c18 : (t484.length : Int) > 30
      ·rw [if_pos c18] at H
       have c18b0 : decide (30 < (t484.length : Int)) = true := decide_eq_true c18
       have c18b1 : decide (30 < t484.length) = true := decide_eq_true (by omega)
       clear c18
       have H' := Aside0.mk H
       clear H
       obtain ⟨Ao19, co19, eo19⟩ := Kd.R_slice HO487.out
       subst eo19
       go_wp2
       repeat (go_quiet (fail); try go_wp2)
       go_meet
       case rel => exact ⟨_, (true), (by first | rfl | (simp; done) | (simp [*]; done)), H', ⟨by first | omega | exact Nat.le_refl _⟩, ⟨by (with_reducible repeat (first | apply Kd.R_alloc | apply Kd.R_drewN | apply Kd.R_drew)); exact HO487.out⟩, ⟨by repeat (first | (with_reducible first | exact HB.out | apply below_alloc | apply pw_below_drewN | apply below_drew1) | exact HB.out)⟩⟩
      ·rw [if_neg c18] at H
       have c18b0 : decide (30 < (t484.length : Int)) = false := decide_eq_false c18
       have c18b1 : decide (30 < t484.length) = false := decide_eq_false (by omega)
       clear c18
       by_cases c20 : 0 < (t484.length : Int)
       rotate_left
       ·rw [if_neg c20] at H; exact absurd H (by simp)
       rw [if_pos c20] at H
       have c20b0 : decide (0 < (t484.length : Int)) = true := decide_eq_true c20
       have c20b1 : decide (0 < t484.length) = true := decide_eq_true (by omega)
       clear c20
       by_cases c21 : 0 < (l0.length : Int)
       rotate_left
       ·rw [if_neg c21] at H; exact absurd H (by simp)
       rw [if_pos c21] at H
       have c21b0 : decide (0 < (l0.length : Int)) = true := decide_eq_true c21
       have c21b1 : decide (0 < l0.length) = true := decide_eq_true (by omega)
       clear c21
       by_cases c22 : (rd t484 0) = ((rd_T24 l0 0).f0)
       ·rw [if_pos c22] at H
        have c22b0 : ((rd t484 0) == ((rd_T24 l0 0).f0)) = true := beq_iff_eq.mpr c22
        have c22b1 : ((rd t484 0) != ((rd_T24 l0 0).f0)) = false := bne_eq_false_iff_eq.mpr c22
        clear c22
        obtain ⟨ji23, hji23⟩ : ∃ j_ : Int, (wrap64 ((t484.length : Int) - 1)) = j_ := ⟨_, rfl⟩
        replace H : (if 0 ≤ (ji23) then (if (ji23) < (t484.length : Int) then (formelaw10_TreePaths.j0 k l0 t481 t484 ((rd t484 (ji23)) != ((rd_T24 l0 (ji7)).f0))) else (none)) else (none)) = some r := by first | (rw [hji23] at H; exact H) | (simp only [hji23] at H ⊢; exact H)
        have hji23w : (IntKind.i64.wrap ((t484.length : Int) - 1)) = ji23 := (i64_w _).trans hji23
        by_cases c24 : 0 ≤ (ji23)
        rotate_left
        ·rw [if_neg c24] at H; exact absurd H (by simp)
        rw [if_pos c24] at H
        have c24b0 : decide (0 ≤ (ji23)) = true := decide_eq_true c24
        clear c24
        by_cases c25 : (ji23) < (t484.length : Int)
        rotate_left
        ·rw [if_neg c25] at H; exact absurd H (by simp)
        rw [if_pos c25] at H
        have c25b0 : decide ((ji23) < (t484.length : Int)) = true := decide_eq_true c25
        clear c25
        have H' := Aside0.mk H
        clear H
        obtain ⟨Ao26, co26, eo26⟩ := Kd.R_slice HO487.out
        subst eo26
        have p488 : 0 ≤ (0 : Int) := (by omega)
        have q488 : 0 < (t484.length : Int) := of_decide_eq_true (by first | (with_reducible assumption) | assumption)
        obtain ⟨ad488, e488, hx488_0⟩ := Kd.at_int (Kd.R_reads' HO487.out).2.2 0 p488 q488
        cases e488
        have qi488 : (0 < t484.length) = True := eq_true (by omega)
        (try rw [show ((0 : Int)).toNat = 0 from rfl] at hx488_0)
        (try rw [Addr.add_zero'] at hx488_0)
        replace p488 := eq_true p488
        replace q488 := eq_true q488
        have p489 : 0 ≤ (0 : Int) := (by omega)
        have q489 : 0 < (l0.length : Int) := of_decide_eq_true (by first | (with_reducible assumption) | assumption)
        obtain ⟨ad489, e489, hx489_0, hx489_1, hx489_2, hx489_3, hx489_4⟩ := at_T24 HR0.out 0 p489 q489
        obtain rfl : ad483 = ad489 := (by injection e489)
        have qi489 : (0 < l0.length) = True := eq_true (by omega)
        (try rw [show ((0 : Int)).toNat = 0 from rfl] at hx489_0)
        (try rw [show 0 * 5 = 0 from rfl] at hx489_0)
        (try rw [Addr.add_zero'] at hx489_0)
        (try rw [show ((0 : Int)).toNat = 0 from rfl] at hx489_1)
        (try rw [show 0 * 5 = 0 from rfl] at hx489_1)
        (try rw [Addr.add_zero'] at hx489_1)
        (try rw [show ((0 : Int)).toNat = 0 from rfl] at hx489_2)
        (try rw [show 0 * 5 = 0 from rfl] at hx489_2)
        (try rw [Addr.add_zero'] at hx489_2)
        (try rw [show ((0 : Int)).toNat = 0 from rfl] at hx489_3)
        (try rw [show 0 * 5 = 0 from rfl] at hx489_3)
        (try rw [Addr.add_zero'] at hx489_3)
        (try rw [show ((0 : Int)).toNat = 0 from rfl] at hx489_4)
        (try rw [show 0 * 5 = 0 from rfl] at hx489_4)
        (try rw [Addr.add_zero'] at hx489_4)
        replace hx489_0 := (HB.out.cell (World.block_lt_of_cell? w _ hx489_0)).trans hx489_0
        replace hx489_1 := (HB.out.cell (World.block_lt_of_cell? w _ hx489_1)).trans hx489_1
        replace hx489_2 := (HB.out.cell (World.block_lt_of_cell? w _ hx489_2)).trans hx489_2
        replace hx489_3 := (HB.out.cell (World.block_lt_of_cell? w _ hx489_3)).trans hx489_3
        replace hx489_4 := (HB.out.cell (World.block_lt_of_cell? w _ hx489_4)).trans hx489_4
        replace p489 := eq_true p489
        replace q489 := eq_true q489
        have p490 : 0 ≤ ((ji23) : Int) := of_decide_eq_true (by first | (with_reducible assumption) | assumption)
        have q490 : (ji23) < (t484.length : Int) := of_decide_eq_true (by first | (with_reducible assumption) | assumption)
        obtain ⟨ad490, e490, hx490_0⟩ := Kd.at_int (Kd.R_reads' HO487.out).2.2 (ji23) p490 q490
        obtain rfl : ad488 = ad490 := (by injection e490)
        replace p490 := eq_true p490
        replace q490 := eq_true q490
        go_wp2
        repeat (go_quiet (fail); try go_wp2)
        go_meet
        case rel => exact ⟨_, (((rd t484 (ji23)) != ((rd_T24 l0 (ji7)).f0))), (by first | rfl | (simp; done) | (simp only [← hji7, ← hji23] <;> (first | rfl | simp)) | (simp [*]; done)), H', ⟨by first | omega | exact Nat.le_refl _⟩, ⟨by (with_reducible repeat (first | apply Kd.R_alloc | apply Kd.R_drewN | apply Kd.R_drew)); exact HO487.out⟩, ⟨by repeat (first | (with_reducible first | exact HB.out | apply below_alloc | apply pw_below_drewN | apply below_drew1) | exact HB.out)⟩⟩
       ·rw [if_neg c22] at H
        have c22b0 : ((rd t484 0) == ((rd_T24 l0 0).f0)) = false := beq_eq_false_iff_ne.mpr c22
        have c22b1 : ((rd t484 0) != ((rd_T24 l0 0).f0)) = true := bne_iff_ne.mpr c22
        have H' := Aside0.mk H
        clear H
        obtain ⟨Ao27, co27, eo27⟩ := Kd.R_slice HO487.out
        subst eo27
        have p488 : 0 ≤ (0 : Int) := (by omega)
        have q488 : 0 < (t484.length : Int) := of_decide_eq_true (by first | (with_reducible assumption) | assumption)
        obtain ⟨ad488, e488, hx488_0⟩ := Kd.at_int (Kd.R_reads' HO487.out).2.2 0 p488 q488
        cases e488
        have qi488 : (0 < t484.length) = True := eq_true (by omega)
        (try rw [show ((0 : Int)).toNat = 0 from rfl] at hx488_0)
        (try rw [Addr.add_zero'] at hx488_0)
        replace p488 := eq_true p488
        replace q488 := eq_true q488
        have p489 : 0 ≤ (0 : Int) := (by omega)
        have q489 : 0 < (l0.length : Int) := of_decide_eq_true (by first | (with_reducible assumption) | assumption)
        obtain ⟨ad489, e489, hx489_0, hx489_1, hx489_2, hx489_3, hx489_4⟩ := at_T24 HR0.out 0 p489 q489
        obtain rfl : ad483 = ad489 := (by injection e489)
        have qi489 : (0 < l0.length) = True := eq_true (by omega)
        (try rw [show ((0 : Int)).toNat = 0 from rfl] at hx489_0)
        (try rw [show 0 * 5 = 0 from rfl] at hx489_0)
        (try rw [Addr.add_zero'] at hx489_0)
        (try rw [show ((0 : Int)).toNat = 0 from rfl] at hx489_1)
        (try rw [show 0 * 5 = 0 from rfl] at hx489_1)
        (try rw [Addr.add_zero'] at hx489_1)
        (try rw [show ((0 : Int)).toNat = 0 from rfl] at hx489_2)
        (try rw [show 0 * 5 = 0 from rfl] at hx489_2)
        (try rw [Addr.add_zero'] at hx489_2)
        (try rw [show ((0 : Int)).toNat = 0 from rfl] at hx489_3)
        (try rw [show 0 * 5 = 0 from rfl] at hx489_3)
        (try rw [Addr.add_zero'] at hx489_3)
        (try rw [show ((0 : Int)).toNat = 0 from rfl] at hx489_4)
        (try rw [show 0 * 5 = 0 from rfl] at hx489_4)
        (try rw [Addr.add_zero'] at hx489_4)
        replace hx489_0 := (HB.out.cell (World.block_lt_of_cell? w _ hx489_0)).trans hx489_0
        replace hx489_1 := (HB.out.cell (World.block_lt_of_cell? w _ hx489_1)).trans hx489_1
        replace hx489_2 := (HB.out.cell (World.block_lt_of_cell? w _ hx489_2)).trans hx489_2
        replace hx489_3 := (HB.out.cell (World.block_lt_of_cell? w _ hx489_3)).trans hx489_3
        replace hx489_4 := (HB.out.cell (World.block_lt_of_cell? w _ hx489_4)).trans hx489_4
        replace p489 := eq_true p489
        replace q489 := eq_true q489
        go_wp2
        repeat (go_quiet (fail); try go_wp2)
        go_meet
        case rel => exact ⟨_, (true), (by first | rfl | (simp; done) | (simp [*]; done)), H', ⟨by first | omega | exact Nat.le_refl _⟩, ⟨by (with_reducible repeat (first | apply Kd.R_alloc | apply Kd.R_drewN | apply Kd.R_drew)); exact HO487.out⟩, ⟨by repeat (first | (with_reducible first | exact HB.out | apply below_alloc | apply pw_below_drewN | apply below_drew1) | exact HB.out)⟩⟩
    ·rw [if_neg c15] at H
     have c15b0 : (t485 == 0) = false := beq_eq_false_iff_ne.mpr c15
     have c15b1 : (t485 != 0) = true := bne_iff_ne.mpr c15
     (first | rw [c15b0] | (simp only [i64_w, i32_w]; rw [c15b0]) | skip)
     have H' := Aside0.mk H
     clear H
     go_wp2
     repeat (go_quiet (fail); try go_wp2)
     go_meet
     case rel => exact ⟨_, (true), (by first | rfl | (simp; done) | (simp [*]; done)), H', ⟨by first | omega | exact Nat.le_refl _⟩, ⟨by (with_reducible repeat (first | apply Kd.R_alloc | apply Kd.R_drewN | apply Kd.R_drew)); exact HO487.out⟩, ⟨by repeat (first | (with_reducible first | exact HB.out | apply below_alloc | apply pw_below_drewN | apply below_drew1) | exact HB.out)⟩⟩
   case rest =>
    clear HC11
    try clear c1
    try clear c2
    try clear p2
    try clear p4
    try clear q4
    try clear hx4
    try clear qi4
    try clear c5
    try clear c6
    try clear c6b0
    try clear c6b1
    try clear c6b2
    try clear p6
    try clear c8
    try clear c8b0
    try clear c9
    try clear c9b0
    try clear c15
    try clear c15b0
    try clear c15b1
    try clear c16
    try clear c16b0
    try clear c16b1
    try clear c18
    try clear c18b0
    try clear c18b1
    try clear c20
    try clear c20b0
    try clear c20b1
    try clear c21
    try clear c21b0
    try clear c21b1
    try clear c22
    try clear c22b0
    try clear c22b1
    try clear c24
    try clear c24b0
    try clear c25
    try clear c25b0
    try clear hx483_0
    try clear hx483_1
    try clear hx483_2
    try clear hx483_3
    try clear hx483_4
    try clear hx488_0
    try clear hx489_0
    try clear hx489_1
    try clear hx489_2
    try clear hx489_3
    try clear hx489_4
    try clear hx490_0
    try clear p483
    try clear p488
    try clear p489
    try clear p490
    try clear q483
    try clear q488
    try clear q489
    try clear q490
    obtain ⟨kq, x64_10, rfl, HA, HJ10, HO_7, HB⟩ := hcut
    cases kq with
    | zero => exact absurd HA.out (by simp [formelaw10_TreePaths.j0])
    | succ kj10 =>
     have H := HA.out
     clear HA
     simp only [formelaw10_TreePaths.j0] at H
     by_cases c28 : x64_10 = true
     ·subst c28
      have H1 : (none) = some r := by rw [if_pos rfl] at H; exact H
      clear H
      have H := H1
      clear H1
      exact absurd H (by simp)
     ·replace c28 := Bool.eq_false_iff.mpr c28
      subst c28
      have H1 : (formelaw10_TreePaths.l0 kj10 l0 t481 t484 1) = some r := by rw [if_neg (show ¬ (false = true) by decide)] at H; exact H
      clear H
      have H := H1
      clear H1
      have H' := Aside0.mk H
      clear H
      go_wp2
      repeat (go_quiet (fail); try go_wp2)
      go_loopg [9] kj10 (fun kq v9 w' => ∃ (x9_2 : Int), v9 = .int .i64 x9_2 ∧ Aside0 (formelaw10_TreePaths.l0 kq l0 t481 t484 x9_2 = some r) ∧ Aside0 (kq ≤ kj10) ∧ Aside0 (Kd.R (Kd.int .i64) 3 w' w.heap.size (fun _ => True) v486 t484) ∧ Aside0 (Below w.heap.size w w'))
      case atStart => exact ⟨(1), (by first | rfl | (simp; done) | (simp [*]; done)), H', ⟨Nat.le_refl _⟩, ⟨by (with_reducible repeat (first | apply Kd.R_alloc | apply Kd.R_drewN | apply Kd.R_drew)); exact HO_7.out⟩, ⟨by repeat (first | (with_reducible first | exact HB.out | apply below_alloc | apply pw_below_drewN | apply below_drew1) | exact HB.out)⟩⟩
      case round =>
       clear H'
       try clear c1
       try clear c2
       try clear p2
       try clear p4
       try clear q4
       try clear hx4
       try clear qi4
       try clear c5
       try clear c6
       try clear c6b0
       try clear c6b1
       try clear c6b2
       try clear p6
       try clear c8
       try clear c8b0
       try clear c9
       try clear c9b0
       try clear c15
       try clear c15b0
       try clear c15b1
       try clear c16
       try clear c16b0
       try clear c16b1
       try clear c18
       try clear c18b0
       try clear c18b1
       try clear c20
       try clear c20b0
       try clear c20b1
       try clear c21
       try clear c21b0
       try clear c21b1
       try clear c22
       try clear c22b0
       try clear c22b1
       try clear c24
       try clear c24b0
       try clear c25
       try clear c25b0
       try clear c28
       try clear hx483_0
       try clear hx483_1
       try clear hx483_2
       try clear hx483_3
       try clear hx483_4
       try clear hx488_0
       try clear hx489_0
       try clear hx489_1
       try clear hx489_2
       try clear hx489_3
       try clear hx489_4
       try clear hx490_0
       try clear p2
       try clear p4
       try clear p483
       try clear p488
       try clear p489
       try clear p490
       try clear p6
       try clear q4
       try clear q483
       try clear q488
       try clear q489
       try clear q490
       obtain ⟨x9_2, rfl, HA, HK2, HO_7, HB⟩ := hrel
       cases gk with
       | zero => exact absurd HA.out (by simp [formelaw10_TreePaths.l0])
       | succ k2 =>
        have H := HA.out
        clear HA
        simp only [formelaw10_TreePaths.l0] at H
        by_cases c29 : x9_2 < (t484.length : Int)
        ·rw [if_pos c29] at H
         have c29b0 : decide (x9_2 < (t484.length : Int)) = true := decide_eq_true c29
         clear c29
         by_cases c30 : 0 ≤ x9_2
         rotate_left
         ·rw [if_neg c30] at H; exact absurd H (by simp)
         rw [if_pos c30] at H
         have c30b0 : decide (0 ≤ x9_2) = true := decide_eq_true c30
         clear c30
         replace H := Option.bind_eq_some_iff.mp H
         obtain ⟨⟨t492, t493, t494⟩, A310, H⟩ := H
         try dsimp only at H
         have A31 := Aside0.mk A310
         clear A310
         by_cases c32 : t494 = 0
         rotate_left
         ·rw [if_neg c32] at H; exact absurd H (by simp)
         rw [if_pos c32] at H
         have c32b0 : (t494 == 0) = true := beq_iff_eq.mpr c32
         have c32b1 : (t494 != 0) = false := bne_eq_false_iff_eq.mpr c32
         clear c32
         by_cases c33 : t493 = true
         ·subst c33
          have H1 : (if t492 < 0 then (none) else (if t492 ≥ (l0.length : Int) then (none) else (if 0 ≤ t492 then (if t492 < (l0.length : Int) then (if 0 ≤ (wrap64 (x9_2 - 1)) then (if (wrap64 (x9_2 - 1)) < (t484.length : Int) then (if ((rd_T24 l0 t492).f1) = (rd t484 (wrap64 (x9_2 - 1))) then (formelaw10_TreePaths.l0 k2 l0 t481 t484 (wrap64 (x9_2 + 1))) else (none)) else (none)) else (none)) else (none)) else (none)))) = some r := by rw [if_pos rfl] at H; exact H
          clear H
          have H := H1
          clear H1
          by_cases c34 : t492 < 0
          ·rw [if_pos c34] at H
           exact absurd H (by simp)
          ·rw [if_neg c34] at H
           have c34b0 : decide (t492 < 0) = false := decide_eq_false c34
           clear c34
           by_cases c35 : t492 ≥ (l0.length : Int)
           ·rw [if_pos c35] at H
            exact absurd H (by simp)
           ·rw [if_neg c35] at H
            have c35b0 : decide ((l0.length : Int) ≤ t492) = false := decide_eq_false c35
            clear c35
            by_cases c36 : 0 ≤ t492
            rotate_left
            ·rw [if_neg c36] at H; exact absurd H (by simp)
            rw [if_pos c36] at H
            have c36b0 : decide (0 ≤ t492) = true := decide_eq_true c36
            clear c36
            by_cases c37 : t492 < (l0.length : Int)
            rotate_left
            ·rw [if_neg c37] at H; exact absurd H (by simp)
            rw [if_pos c37] at H
            have c37b0 : decide (t492 < (l0.length : Int)) = true := decide_eq_true c37
            clear c37
            obtain ⟨ji38, hji38⟩ : ∃ j_ : Int, (wrap64 (x9_2 - 1)) = j_ := ⟨_, rfl⟩
            replace H : (if 0 ≤ (ji38) then (if (ji38) < (t484.length : Int) then (if ((rd_T24 l0 t492).f1) = (rd t484 (ji38)) then (formelaw10_TreePaths.l0 k2 l0 t481 t484 (wrap64 (x9_2 + 1))) else (none)) else (none)) else (none)) = some r := by first | (rw [hji38] at H; exact H) | (simp only [hji38] at H ⊢; exact H)
            (try rw [hji38] at A31)
            have hji38w : (IntKind.i64.wrap (x9_2 - 1)) = ji38 := (i64_w _).trans hji38
            by_cases c39 : 0 ≤ (ji38)
            rotate_left
            ·rw [if_neg c39] at H; exact absurd H (by simp)
            rw [if_pos c39] at H
            have c39b0 : decide (0 ≤ (ji38)) = true := decide_eq_true c39
            clear c39
            by_cases c40 : (ji38) < (t484.length : Int)
            rotate_left
            ·rw [if_neg c40] at H; exact absurd H (by simp)
            rw [if_pos c40] at H
            have c40b0 : decide ((ji38) < (t484.length : Int)) = true := decide_eq_true c40
            clear c40
            by_cases c41 : ((rd_T24 l0 t492).f1) = (rd t484 (ji38))
            rotate_left
            ·rw [if_neg c41] at H; exact absurd H (by simp)
            rw [if_pos c41] at H
            have c41b0 : (((rd_T24 l0 t492).f1) == (rd t484 (ji38))) = true := beq_iff_eq.mpr c41
            have c41b1 : (((rd_T24 l0 t492).f1) != (rd t484 (ji38))) = false := bne_eq_false_iff_eq.mpr c41
            clear c41
            have H' := Aside0.mk H
            clear H
            obtain ⟨Ao42, co42, eo42⟩ := Kd.R_slice HO_7.out
            subst eo42
            have p491 : 0 ≤ (x9_2 : Int) := of_decide_eq_true (by first | (with_reducible assumption) | assumption)
            have q491 : x9_2 < (t484.length : Int) := of_decide_eq_true (by first | (with_reducible assumption) | assumption)
            obtain ⟨ad491, e491, hx491_0⟩ := Kd.at_int (Kd.R_reads' HO_7.out).2.2 x9_2 p491 q491
            cases e491
            replace p491 := eq_true p491
            replace q491 := eq_true q491
            go_wp2_with (first | (go_at_call 11; (with_reducible refine (tree_Find.calls _ _ l0 (rd t484 x9_2) t492 true t494 _ ?side1 ?side2 A31.out).mono ?_); (case side1 => repeat (first | exact (Kd.C_below HR0.out HB.out) | (with_reducible refine Kd.C_alloc ?_ _) | (with_reducible refine Kd.C_drewN ?_ _) | (with_reducible refine Kd.C_drew ?_))); (case side2 => exact HC0.out); rintro e w43 ⟨rfl, hb⟩; have n0_ := Aside0.mk (Kd.R_below (by (with_reducible repeat (first | apply Kd.R_alloc | apply Kd.R_drewN | apply Kd.R_drew)); exact HO_7.out) hb); have n1_ := Aside0.mk (below_step (by repeat (first | (with_reducible first | exact HB.out | apply below_alloc | apply pw_below_drewN | apply below_drew1) | exact HB.out)) hb); clear HO_7; clear HB; have HO_7 := n0_; have HB := n1_; clear n0_ n1_; (try clear hb); (try clear hb2); (try clear hk); (try clear hi); have p495 : 0 ≤ (t492 : Int) := of_decide_eq_true (by first | (with_reducible assumption) | assumption); have q495 : t492 < (l0.length : Int) := of_decide_eq_true (by first | (with_reducible assumption) | assumption); obtain ⟨ad495, e495, hx495_0, hx495_1, hx495_2, hx495_3, hx495_4⟩ := at_T24 HR0.out t492 p495 q495; obtain rfl : ad483 = ad495 := (by injection e495); replace hx495_0 := (HB.out.cell (World.block_lt_of_cell? w _ hx495_0)).trans hx495_0; replace hx495_1 := (HB.out.cell (World.block_lt_of_cell? w _ hx495_1)).trans hx495_1; replace hx495_2 := (HB.out.cell (World.block_lt_of_cell? w _ hx495_2)).trans hx495_2; replace hx495_3 := (HB.out.cell (World.block_lt_of_cell? w _ hx495_3)).trans hx495_3; replace hx495_4 := (HB.out.cell (World.block_lt_of_cell? w _ hx495_4)).trans hx495_4; replace p495 := eq_true p495; replace q495 := eq_true q495; have p496 : 0 ≤ ((ji38) : Int) := of_decide_eq_true (by first | (with_reducible assumption) | assumption); have q496 : (ji38) < (t484.length : Int) := of_decide_eq_true (by first | (with_reducible assumption) | assumption); obtain ⟨ad496, e496, hx496_0⟩ := Kd.at_int (Kd.R_reads' HO_7.out).2.2 (ji38) p496 q496; obtain rfl : ad491 = ad496 := (by injection e496); replace p496 := eq_true p496; replace q496 := eq_true q496))
            repeat (go_quiet (first | (go_at_call 11; (with_reducible refine (tree_Find.calls _ _ l0 (rd t484 x9_2) t492 true t494 _ ?side1 ?side2 A31.out).mono ?_); (case side1 => repeat (first | exact (Kd.C_below HR0.out HB.out) | (with_reducible refine Kd.C_alloc ?_ _) | (with_reducible refine Kd.C_drewN ?_ _) | (with_reducible refine Kd.C_drew ?_))); (case side2 => exact HC0.out); rintro e w43 ⟨rfl, hb⟩; have n0_ := Aside0.mk (Kd.R_below (by (with_reducible repeat (first | apply Kd.R_alloc | apply Kd.R_drewN | apply Kd.R_drew)); exact HO_7.out) hb); have n1_ := Aside0.mk (below_step (by repeat (first | (with_reducible first | exact HB.out | apply below_alloc | apply pw_below_drewN | apply below_drew1) | exact HB.out)) hb); clear HO_7; clear HB; have HO_7 := n0_; have HB := n1_; clear n0_ n1_; (try clear hb); (try clear hb2); (try clear hk); (try clear hi); have p495 : 0 ≤ (t492 : Int) := of_decide_eq_true (by first | (with_reducible assumption) | assumption); have q495 : t492 < (l0.length : Int) := of_decide_eq_true (by first | (with_reducible assumption) | assumption); obtain ⟨ad495, e495, hx495_0, hx495_1, hx495_2, hx495_3, hx495_4⟩ := at_T24 HR0.out t492 p495 q495; obtain rfl : ad483 = ad495 := (by injection e495); replace hx495_0 := (HB.out.cell (World.block_lt_of_cell? w _ hx495_0)).trans hx495_0; replace hx495_1 := (HB.out.cell (World.block_lt_of_cell? w _ hx495_1)).trans hx495_1; replace hx495_2 := (HB.out.cell (World.block_lt_of_cell? w _ hx495_2)).trans hx495_2; replace hx495_3 := (HB.out.cell (World.block_lt_of_cell? w _ hx495_3)).trans hx495_3; replace hx495_4 := (HB.out.cell (World.block_lt_of_cell? w _ hx495_4)).trans hx495_4; replace p495 := eq_true p495; replace q495 := eq_true q495; have p496 : 0 ≤ ((ji38) : Int) := of_decide_eq_true (by first | (with_reducible assumption) | assumption); have q496 : (ji38) < (t484.length : Int) := of_decide_eq_true (by first | (with_reducible assumption) | assumption); obtain ⟨ad496, e496, hx496_0⟩ := Kd.at_int (Kd.R_reads' HO_7.out).2.2 (ji38) p496 q496; obtain rfl : ad491 = ad496 := (by injection e496); replace p496 := eq_true p496; replace q496 := eq_true q496)); try go_wp2_with (first | (go_at_call 11; (with_reducible refine (tree_Find.calls _ _ l0 (rd t484 x9_2) t492 true t494 _ ?side1 ?side2 A31.out).mono ?_); (case side1 => repeat (first | exact (Kd.C_below HR0.out HB.out) | (with_reducible refine Kd.C_alloc ?_ _) | (with_reducible refine Kd.C_drewN ?_ _) | (with_reducible refine Kd.C_drew ?_))); (case side2 => exact HC0.out); rintro e w43 ⟨rfl, hb⟩; have n0_ := Aside0.mk (Kd.R_below (by (with_reducible repeat (first | apply Kd.R_alloc | apply Kd.R_drewN | apply Kd.R_drew)); exact HO_7.out) hb); have n1_ := Aside0.mk (below_step (by repeat (first | (with_reducible first | exact HB.out | apply below_alloc | apply pw_below_drewN | apply below_drew1) | exact HB.out)) hb); clear HO_7; clear HB; have HO_7 := n0_; have HB := n1_; clear n0_ n1_; (try clear hb); (try clear hb2); (try clear hk); (try clear hi); have p495 : 0 ≤ (t492 : Int) := of_decide_eq_true (by first | (with_reducible assumption) | assumption); have q495 : t492 < (l0.length : Int) := of_decide_eq_true (by first | (with_reducible assumption) | assumption); obtain ⟨ad495, e495, hx495_0, hx495_1, hx495_2, hx495_3, hx495_4⟩ := at_T24 HR0.out t492 p495 q495; obtain rfl : ad483 = ad495 := (by injection e495); replace hx495_0 := (HB.out.cell (World.block_lt_of_cell? w _ hx495_0)).trans hx495_0; replace hx495_1 := (HB.out.cell (World.block_lt_of_cell? w _ hx495_1)).trans hx495_1; replace hx495_2 := (HB.out.cell (World.block_lt_of_cell? w _ hx495_2)).trans hx495_2; replace hx495_3 := (HB.out.cell (World.block_lt_of_cell? w _ hx495_3)).trans hx495_3; replace hx495_4 := (HB.out.cell (World.block_lt_of_cell? w _ hx495_4)).trans hx495_4; replace p495 := eq_true p495; replace q495 := eq_true q495; have p496 : 0 ≤ ((ji38) : Int) := of_decide_eq_true (by first | (with_reducible assumption) | assumption); have q496 : (ji38) < (t484.length : Int) := of_decide_eq_true (by first | (with_reducible assumption) | assumption); obtain ⟨ad496, e496, hx496_0⟩ := Kd.at_int (Kd.R_reads' HO_7.out).2.2 (ji38) p496 q496; obtain rfl : ad491 = ad496 := (by injection e496); replace p496 := eq_true p496; replace q496 := eq_true q496)))
            go_roundg k2
            case measure => have := HJ10.out; have := HK2.out; omega
            case rel => exact ⟨(wrap64 (x9_2 + 1)), (by first | rfl | (simp; done) | (simp [*]; done)), H', ⟨by have := HJ10.out; have := HK2.out; omega⟩, ⟨by (with_reducible repeat (first | apply Kd.R_alloc | apply Kd.R_drewN | apply Kd.R_drew)); exact HO_7.out⟩, ⟨by repeat (first | (with_reducible first | exact HB.out | apply below_alloc | apply pw_below_drewN | apply below_drew1) | exact HB.out)⟩⟩
         ·replace c33 := Bool.eq_false_iff.mpr c33
          subst c33
          have H1 : (none) = some r := by rw [if_neg (show ¬ (false = true) by decide)] at H; exact H
          clear H
          have H := H1
          clear H1
          exact absurd H (by simp)
        ·rw [if_neg c29] at H
         have c29b0 : decide (x9_2 < (t484.length : Int)) = false := decide_eq_false c29
         clear c29
         obtain rfl := Option.some.inj H
         obtain ⟨Ao44, co44, eo44⟩ := Kd.R_slice HO_7.out
         subst eo44
         go_wp2
         repeat (go_quiet (fail); try go_wp2)
         go_ret
         exact ⟨by first | rfl | (simp [errW_none, errW_some] <;> rfl) | (simp only [← hji7]; first | rfl | (simp [errW_none, errW_some] <;> rfl)) | (simp [*, errW_none, errW_some] <;> rfl), by repeat (first | (with_reducible first | exact HB.out | apply below_alloc | apply pw_below_drewN | apply below_drew1) | exact HB.out)⟩
 ·replace c5 := Bool.eq_false_iff.mpr c5
  subst c5
  have H1 : (some t481) = some r := by rw [if_neg (show ¬ (false = true) by decide)] at H; exact H
  clear H
  have H := H1
  clear H1
  obtain rfl := Option.some.inj H
  go_enter Try.func5, Try.ntmps5
  go_wp2_with (first | (go_at_call 9; (with_reducible refine (formelaw10_head.calls k  t481 _ A3.out).mono ?_); rintro e w45 ⟨rfl, hb⟩; have n0_ := Aside0.mk (below_step (by repeat (first | (with_reducible first | exact HB.out | apply below_alloc | apply pw_below_drewN | apply below_drew1) | exact HB.out)) hb); clear HB; have HB := n0_; clear n0_; (try clear hb); (try clear hb2); (try clear hk); (try clear hi)) | (go_at_call 27; (with_reducible refine (formelaw10_usable.calls k _ _ l0 false _ ?side1 ?side2 A4.out).mono ?_); (case side1 => repeat (first | exact (Kd.C_below HR0.out HB.out) | (with_reducible refine Kd.C_alloc ?_ _) | (with_reducible refine Kd.C_drewN ?_ _) | (with_reducible refine Kd.C_drew ?_))); (case side2 => exact HC0.out); rintro e w46 ⟨rfl, hb⟩; have n0_ := Aside0.mk (below_step (by repeat (first | (with_reducible first | exact HB.out | apply below_alloc | apply pw_below_drewN | apply below_drew1) | exact HB.out)) hb); clear HB; have HB := n0_; clear n0_; (try clear hb); (try clear hb2); (try clear hk); (try clear hi)))
  repeat (go_quiet (first | (go_at_call 9; (with_reducible refine (formelaw10_head.calls k  t481 _ A3.out).mono ?_); rintro e w45 ⟨rfl, hb⟩; have n0_ := Aside0.mk (below_step (by repeat (first | (with_reducible first | exact HB.out | apply below_alloc | apply pw_below_drewN | apply below_drew1) | exact HB.out)) hb); clear HB; have HB := n0_; clear n0_; (try clear hb); (try clear hb2); (try clear hk); (try clear hi)) | (go_at_call 27; (with_reducible refine (formelaw10_usable.calls k _ _ l0 false _ ?side1 ?side2 A4.out).mono ?_); (case side1 => repeat (first | exact (Kd.C_below HR0.out HB.out) | (with_reducible refine Kd.C_alloc ?_ _) | (with_reducible refine Kd.C_drewN ?_ _) | (with_reducible refine Kd.C_drew ?_))); (case side2 => exact HC0.out); rintro e w46 ⟨rfl, hb⟩; have n0_ := Aside0.mk (below_step (by repeat (first | (with_reducible first | exact HB.out | apply below_alloc | apply pw_below_drewN | apply below_drew1) | exact HB.out)) hb); clear HB; have HB := n0_; clear n0_; (try clear hb); (try clear hb2); (try clear hk); (try clear hi))); try go_wp2_with (first | (go_at_call 9; (with_reducible refine (formelaw10_head.calls k  t481 _ A3.out).mono ?_); rintro e w45 ⟨rfl, hb⟩; have n0_ := Aside0.mk (below_step (by repeat (first | (with_reducible first | exact HB.out | apply below_alloc | apply pw_below_drewN | apply below_drew1) | exact HB.out)) hb); clear HB; have HB := n0_; clear n0_; (try clear hb); (try clear hb2); (try clear hk); (try clear hi)) | (go_at_call 27; (with_reducible refine (formelaw10_usable.calls k _ _ l0 false _ ?side1 ?side2 A4.out).mono ?_); (case side1 => repeat (first | exact (Kd.C_below HR0.out HB.out) | (with_reducible refine Kd.C_alloc ?_ _) | (with_reducible refine Kd.C_drewN ?_ _) | (with_reducible refine Kd.C_drew ?_))); (case side2 => exact HC0.out); rintro e w46 ⟨rfl, hb⟩; have n0_ := Aside0.mk (below_step (by repeat (first | (with_reducible first | exact HB.out | apply below_alloc | apply pw_below_drewN | apply below_drew1) | exact HB.out)) hb); clear HB; have HB := n0_; clear n0_; (try clear hb); (try clear hb2); (try clear hk); (try clear hi))))
  go_ret
  exact ⟨by first | rfl | (simp [errW_none, errW_some] <;> rfl) | (simp [*, errW_none, errW_some] <;> rfl), by repeat (first | (with_reducible first | exact HB.out | apply below_alloc | apply pw_below_drewN | apply below_drew1) | exact HB.out)⟩
end Go.Proofs.Ytpafhhgoldenoaa.P
end
section
namespace Go.Proofs.Ytpafhhgoldenoaa.P
open Go.RowKit Go.Proofs.YtpafhhgoldenoaaW.PrintWords Go.Proofs.YtpafhhgoldenoaaW.PrintLast Go.Proofs.YtpafhhgoldenoaaW.PrintMore
open Go.Proofs.Ytpafhhgoldenoaa.XM
set_option linter.unusedVariables false
set_option linter.unusedSimpArgs false
variable {l : List S24} {ds : Nat → Int} {D : Places}
theorem up_of (T : TreeAt l ds) {j k : Nat} (hj : j < l.length) (hk : k < j) (e : (nd l k).f0 = (nd l j).f1) : upIdx l j = some k :=
 upIdx_some hk e (fun m hm c => by
  have := T.inj (j := m) (k := k) (by omega) (by omega) (c.trans e.symm)
  omega)
theorem pathUp_more (T : TreeAt l ds) : ∀ (j n : Nat), j < l.length → j ≤ n → pathUp l n j = pathUp l j j := by
 intro j
 induction j using Nat.strongRecOn with
 | ind j ih =>
  intro n hj hn
  by_cases h0 : j = 0
  ·subst h0
   cases n with
   | zero => rfl
   | succ n => simp only [pathUp]; rw [if_pos (show (rd_T24 l ((0 : Nat) : Int)).f1 = 0 from T.root.1)]
  ·obtain ⟨k, hk, e, _, _⟩ := T.par j hj (by omega)
   have hu := up_of T hj hk e
   have hp : ¬ ((rd_T24 l (j : Int)).f1 = 0) := by
    have := T.id (j := k) (by omega)
    intro c
    have e' : (nd l k).f0 = (rd_T24 l (j : Int)).f1 := e
    omega
   obtain ⟨n, rfl⟩ : ∃ q, n = q + 1 := ⟨n - 1, by omega⟩
   obtain ⟨j', rfl⟩ : ∃ q, j = q + 1 := ⟨j - 1, by omega⟩
   simp only [pathUp]
   rw [if_neg hp, hu]
   simp only
   rw [ih k (by omega) n (by omega) (by omega), ih k (by omega) j' (by omega) (by omega), if_neg hp]
theorem path_root (T : TreeAt l ds) : pathP l 0 = [(nd l 0).f0] := rfl
theorem path_step (T : TreeAt l ds) {j : Nat} (hj : j < l.length) (h0 : 0 < j) : ∃ k, k < j ∧ (nd l k).f0 = (nd l j).f1 ∧ ds j = ds k + 1 ∧ pathP l j = pathP l k ++ [(nd l j).f0] := by
 obtain ⟨k, hk, e, _, e2⟩ := T.par j hj h0
 refine ⟨k, hk, e, e2, ?_⟩
 have hu := up_of T hj hk e
 have hp : ¬ ((rd_T24 l (j : Int)).f1 = 0) := by
  have := T.id (j := k) (by omega)
  intro c
  have e' : (nd l k).f0 = (rd_T24 l (j : Int)).f1 := e
  omega
 unfold pathP
 obtain ⟨j', rfl⟩ : ∃ q, j = q + 1 := ⟨j - 1, by omega⟩
 simp only [pathUp]
 rw [if_neg hp, hu]
 simp only
 rw [pathUp_more T k j' (by omega) (by omega), List.reverse_cons]
theorem path_all (T : TreeAt l ds) : ∀ j, j < l.length → ((pathP l j).length : Int) = ds j ∧ rd (pathP l j) 0 = (nd l 0).f0 ∧ rd (pathP l j) (((pathP l j).length - 1 : Nat) : Int) = (nd l j).f0 ∧
  ∀ q : Nat, q < (pathP l j).length → ∃ m, m < l.length ∧ rd (pathP l j) (q : Int) = (nd l m).f0 ∧ (0 < q → (nd l m).f1 = rd (pathP l j) ((q - 1 : Nat) : Int)) := by
 intro j
 induction j using Nat.strongRecOn with
 | ind j ih =>
  intro hj
  by_cases h0 : j = 0
  ·subst h0
   rw [path_root T]
   refine ⟨by rw [T.d0]; rfl, rfl, rfl, fun q hq => ⟨0, hj, ?_, fun h => by simp at hq; omega⟩⟩
   obtain rfl : q = 0 := by simp at hq; omega
   rfl
  ·obtain ⟨k, hk, e, e2, hp⟩ := path_step T hj (by omega)
   obtain ⟨i1, i2, i3, i4⟩ := ih k hk (by omega)
   have hd := T.dpos k (by omega)
   have hl0 : 0 < (pathP l k).length := by omega
   rw [hp]
   refine ⟨by simp; omega, ?_, ?_, fun q hq => ?_⟩
   ·exact (rd_snoc _ _ 0 hl0).trans i2
   ·simpa using rd_snoc_last (pathP l k) (nd l j).f0
   ·by_cases c : q < (pathP l k).length
    ·obtain ⟨m, m1, m2, m3⟩ := i4 q c
     refine ⟨m, m1, by rw [rd_snoc _ _ q c, m2], fun h => ?_⟩
     rw [rd_snoc _ _ (q - 1) (by omega)]
     exact m3 h
    ·obtain rfl : q = (pathP l k).length := by simp at hq; omega
     refine ⟨j, hj, rd_snoc_last _ _, fun h => ?_⟩
     rw [rd_snoc _ _ ((pathP l k).length - 1) (by omega), i3, e]
theorem find_at' (hD : placesP l = some D) (T : TreeAt l ds) (P : PAt l ds l.length D) {j : Nat} (hj : j < l.length) : findP l (nd l j).f0 = ((j : Int), true, 0) := by
 have hid := (idB_iff _).2 (T.id hj)
 unfold findP
 rw [hD]
 simp only [hid, if_true, P.1 j hj]
 simp
theorem get_at' (hD : placesP l = some D) (T : TreeAt l ds) (P : PAt l ds l.length D) {j : Nat} (hj : j < l.length) : tree_get.f l (nd l j).f0 = some ((j : Int), 0) := by
 unfold tree_get.f tree_Find.f
 rw [find_at' hD T P hj]
 simp
theorem Path_at (hD : placesP l = some D) (T : TreeAt l ds) (P : PAt l ds l.length D) {j : Nat} (hj : j < l.length) : tree_Path.f l (nd l j).f0 = some (pathP l j, 0) := by
 have := T.len
 unfold tree_Path.f
 rw [get_at' hD T P hj]
 simp only [Option.bind_some, if_true]
 unfold tree_path.f
 rw [if_pos (by omega)]
 simp
theorem paths_l0 (hD : placesP l = some D) (T : TreeAt l ds) (P : PAt l ds l.length D) (p : List Int) (hp : p.length ≤ 4000)
  (hq : ∀ q : Nat, q < p.length → ∃ m, m < l.length ∧ rd p (q : Int) = (nd l m).f0 ∧ (0 < q → (nd l m).f1 = rd p ((q - 1 : Nat) : Int))) :
  ∀ (d q : Nat), 1 ≤ q → p.length - q ≤ d → Ev (fun k => formelaw10_TreePaths.l0 k l true p (q : Int)) true := by
 intro d
 induction d with
 | zero =>
  intro q h1 h2
  refine Ev.up ?_
  simp only [formelaw10_TreePaths.l0]
  exact Ev.els (by omega) (Ev.now _)
 | succ d ih =>
  intro q h1 h2
  refine Ev.up ?_
  simp only [formelaw10_TreePaths.l0]
  by_cases hlt : q < p.length
  ·obtain ⟨m, m1, m2, m3⟩ := hq q hlt
   have hw : wrap64 ((q : Int) - 1) = ((q - 1 : Nat) : Int) := by unfold wrap64; omega
   refine Ev.thn (by omega) (Ev.thn (by omega) ?_)
   refine Ev.obind (show tree_Find.f l (rd p (q : Int)) = some ((m : Int), true, 0) by unfold tree_Find.f; rw [m2, find_at' hD T P m1]) ?_
   rw [hw]
   refine Ev.thn rfl (Ev.thn rfl (Ev.els (by first | (simp; done) | (simp; omega)) (Ev.els (by first | (simp; done) | (simp; omega)) (Ev.thn (by simp) (Ev.thn (by first | (simp; done) | (simp; omega)) (Ev.thn (by omega) (Ev.thn (by omega) (Ev.thn (m3 (by omega)) ?_))))))))
   rw [w64n q (by omega)]
   exact ih (q + 1) (by omega) (by omega)
  ·exact Ev.els (by omega) (Ev.now _)
theorem which_of (T : TreeAt l ds) (a : Int) (ha : 0 ≤ a ∧ a ≤ 255) : ∃ i : Nat, i < l.length ∧ Int.tmod (wrap64 a) (l.length : Int) = (i : Int) := by
 have hpos := T.pos
 have hw : wrap64 a = a := by unfold wrap64; omega
 rw [hw, Int.tmod_eq_emod_of_nonneg ha.1]
 have h1 := Int.emod_nonneg a (show (l.length : Int) ≠ 0 by omega)
 have h2 := Int.emod_lt_of_pos a (show (0 : Int) < l.length by omega)
 exact ⟨(a % (l.length : Int)).toNat, by omega, by omega⟩
theorem paths_pure (l : List S24) (a : Int) (hs : ∀ j, j < l.length → (nd l j).f4.size ≤ 9223372036854775807) (ha : 0 ≤ a ∧ a ≤ 255) : ∃ k, formelaw10_TreePaths.f k l a = some true := by
 refine Ev.rounds (g := fun k => formelaw10_TreePaths.f k l a) ?_
 unfold formelaw10_TreePaths.f
 refine Ev.bind head_true ?_
 rcases usable_cases l hs with h | ⟨h, hl, D, ds, hD, T, P⟩
 ·exact Ev.bind h (Ev.els (by simp) (Ev.now _))
 ·have hpos := T.pos
  obtain ⟨i, hi, hw⟩ := which_of T a ha
  obtain ⟨p1, p2, p3, p4⟩ := path_all T i hi
  have hd := T.dpos i hi
  have h30 := T.le30 i hi
  rw [hw]
  refine Ev.bind h (Ev.thn rfl (Ev.els (by omega) (Ev.thn (by omega) (Ev.thn (by omega) ?_))))
  refine Ev.obind (Path_at hD T P hi) (Ev.thn rfl ?_)
  have hw2 : wrap64 (((pathP l i).length : Int) - 1) = (((pathP l i).length - 1 : Nat) : Int) := by unfold wrap64; omega
  simp only [hw2]
  refine Ev.els (by omega) (Ev.els (by omega) (Ev.thn (by omega) (Ev.thn (by omega) (Ev.thn p2 (Ev.thn (by omega) (Ev.thn (by omega) ?_))))))
  rw [p3]
  refine Ev.up ?_
  simp only [formelaw10_TreePaths.j0]
  refine Ev.els (by simp) ?_
  exact paths_l0 hD T P (pathP l i) (by omega) p4 _ 1 (by omega) (Nat.le_refl _)
end Go.Proofs.Ytpafhhgoldenoaa.P
end
section
namespace Go.Proofs.Ytpafhhgoldenoaa.treePaths
open Go.ChangeShapes Go.WideShapes Go.ChangeAt Go.RowKit
open Go.ChangeMaps (open_string shut_string)
open Go.Proofs.Ytpafhhgoldenoaa.P
set_option linter.unusedVariables false
set_option maxRecDepth 100000 in
theorem lifted (os : Os) (started : os.Started) (H : Type) (enc : TypeId × Value → H) :
  ReturnsInHanded {} Try.checked os 5 .any (Rows.treePathsSpec.pre6 enc Try.prog Try.f5 Rows.treePathsRow.domain false) (Rows.treePathsSpec.post enc Try.prog Try.f5 false true false false) := by
 refine returnsInHanded_of_change_sized (C := Try.checked) own started (by kernel_rfl) Try.func5
  (ChangeSpec.witness6 (enc := enc) (C := Try.checked) false ⟨#[], #[.slice none 0 0, .int .u8 0], []⟩ 8 (by kernel_rfl) (by kernel_rfl) (by kernel_rfl) (by kernel_rfl)) ?_
 intro W base args ds gs before hval0 hW hcnd hsz0 _
 have hval : ∀ (j : Nat) t v, Try.f5.params[j]? = some t → args[j]? = some v → Value.okWide Try.prog W .any base t v := hval0
 have hW' := hW
 obtain ⟨p, q, hA0, hV, rfl, hfz, hnd⟩ := hW
 have hA : DataW.TrodAll enc Try.prog W 0 (fun _ => true) true Try.f5.params.toList args.toList ds p := hA0
 rw [Try.params5] at hA hval
 obtain ⟨v0, vs0, d0, ds0, p0, q0, hargs, rfl, rfl, h0, r0⟩ := trodAll_cons hA
 obtain ⟨v1, vs1, d1, ds1, p1, q1, rfl, rfl, rfl, h1, r1⟩ := trodAll_cons r0
 obtain ⟨rfl, rfl, rfl⟩ := trodAll_nil r1
 obtain rfl : args = #[v0, v1] := by cases args; simp_all
 obtain ⟨rfl, rfl⟩ := trodVars_none hV
 have k0 := h0
 have lt0 : ∀ x ∈ p0, x.block < W.heap.size := by obtain ⟨m, hm⟩ := k0; exact DataW.trod_lt m _ _ _ hm
 obtain ⟨A0, l0, c0, rfl, hr0, hc0, hs0⟩ := open_nodes (hval 0 22 v0 rfl rfl) h0
 obtain ⟨a1, rfl, rfl, rfl, w1⟩ := open_int Try.underlying5 (hval 1 5 v1 rfl rfl) h1
 have b1 : 0 ≤ a1 ∧ a1 ≤ 255 := u8_wf w1
 clear hA0 hval0 hsz0
 obtain ⟨k, h⟩ := paths_pure l0 a1 (fun j hj => hs0 _ (by simp [rd_T24, hj])) b1
 refine (formelaw10_TreePaths.calls k A0 c0 l0 a1 true W hr0 hc0 h).mono fun e W' ⟨he, bel⟩ => ?_
 subst he
 exact ⟨_, rfl, _, _, _, [], _, [], hW', trodAll_mk1 (shut_bool Try.underlying4 _), (trodAll_cons_mk (Below.trod laidOut (by kernel_rfl) (of_decide_eq_true (by kernel_rfl)) k0 bel lt0) (trodAll_cons_mk (shut_int Try.underlying5 w1) trodAll_mk0)), rfl, bel.frame _, fun h => by cases h⟩
theorem over : Rows.treePathsRow.holds Try.pinned (OpenSpec.ofChange Rows.treePathsSpec) :=
 OpenClaim.holds_of_wide 5 Try.f5 rfl rfl rfl rfl rfl rfl rfl ⟨rfl, rfl, rfl, rfl, rfl⟩ rfl rfl rfl rfl rfl (by kernel_rfl) Try.func5 (by kernel_rfl)
  (of_decide_eq_true (by kernel_rfl)) (by unfold Func.isWrapper; first | (rw [if_pos (by decide +kernel)]; kernel_rfl) | (rw [if_neg (by decide +kernel)]; exact ⟨rfl, rfl⟩))
  (fun os started H enc _ => lifted os started H enc)
theorem proved : Rows.TreePathsSaid := over
#print axioms proved
end Go.Proofs.Ytpafhhgoldenoaa.treePaths
namespace Go.Proofs.Ytpafhhgoldenoaa
theorem treePaths_holds : Rows.TreePathsSaid := treePaths.proved
end Go.Proofs.Ytpafhhgoldenoaa
end

import Derived.Test.YtpafhhgoldenoaaRemoves5
/- The law of what is removed holds for every list of nodes and every byte: TreeRemoves returns true and leaves the list as it was. -/
section
namespace Go.Proofs.Ytpafhhgoldenoaa.P
open Go.RowKit Go.Proofs.YtpafhhgoldenoaaW.PrintWords Go.Proofs.YtpafhhgoldenoaaW.PrintLast Go.Proofs.YtpafhhgoldenoaaW.PrintMore
attribute [local go_sem] max2_int min2_int max_two min_two max_three min_three max_four min_four
set_option linter.unusedVariables false
set_option linter.unusedSimpArgs false
mutual
def formelaw10_TreePaths.j0 : Nat → List (S24) → Bool → List Int → Bool → Option (Bool)
 | 0, _, _, _, _ => none
 | k + 1, x0, x5, x7, x64 => if x64 = true then (none) else (formelaw10_TreePaths.l0 k x0 x5 x7 1)
def formelaw10_TreePaths.l0 : Nat → List (S24) → Bool → List Int → Int → Option (Bool)
 | 0, _, _, _, _ => none
 | k + 1, x0, x5, x7, x9 => if x9 < (x7.length : Int) then (if 0 ≤ x9 then ((tree_Find.f x0 (rd x7 x9)).bind fun bt492 => (if bt492.2.2 = 0 then (if bt492.2.1 = true then (if bt492.1 < 0 then (none) else (if bt492.1 ≥ (x0.length : Int) then (none) else (if 0 ≤ bt492.1 then (if bt492.1 < (x0.length : Int) then (if 0 ≤ (wrap64 (x9 - 1)) then (if (wrap64 (x9 - 1)) < (x7.length : Int) then (if ((rd_T24 x0 bt492.1).f1) = (rd x7 (wrap64 (x9 - 1))) then (formelaw10_TreePaths.l0 k x0 x5 x7 (wrap64 (x9 + 1))) else (none)) else (none)) else (none)) else (none)) else (none)))) else (none)) else (none))) else (none)) else (some x5)
end
def formelaw10_TreePaths.f (k : Nat) (l0 : List (S24)) (a1 : Int) : Option (Bool) := (formelaw10_head.f k).bind fun t481 => ((formelaw10_usable.f k l0).bind fun t482 => (if t482 = true then (if (l0.length : Int) = 0 then (none) else (if 0 ≤ (Int.tmod (wrap64 (a1)) (l0.length : Int)) then (if (Int.tmod (wrap64 (a1)) (l0.length : Int)) < (l0.length : Int) then ((tree_Path.f l0 ((rd_T24 l0 (Int.tmod (wrap64 (a1)) (l0.length : Int))).f0)).bind fun bt484 => (if bt484.2 = 0 then (if (bt484.1.length : Int) < 1 then (formelaw10_TreePaths.j0 k l0 t481 bt484.1 true) else (if (bt484.1.length : Int) > 30 then (formelaw10_TreePaths.j0 k l0 t481 bt484.1 true) else (if 0 < (bt484.1.length : Int) then (if 0 < (l0.length : Int) then (if (rd bt484.1 0) = ((rd_T24 l0 0).f0) then (if 0 ≤ (wrap64 ((bt484.1.length : Int) - 1)) then (if (wrap64 ((bt484.1.length : Int) - 1)) < (bt484.1.length : Int) then (formelaw10_TreePaths.j0 k l0 t481 bt484.1 ((rd bt484.1 (wrap64 ((bt484.1.length : Int) - 1))) != ((rd_T24 l0 (Int.tmod (wrap64 (a1)) (l0.length : Int))).f0))) else (none)) else (none)) else (formelaw10_TreePaths.j0 k l0 t481 bt484.1 true)) else (none)) else (none)))) else (formelaw10_TreePaths.j0 k l0 t481 bt484.1 true))) else (none)) else (none))) else (some t481)))
theorem formelaw10_TreePaths.mono_l : ∀ k, (∀ y0 y1 y2 y3, LeO (formelaw10_TreePaths.j0 k y0 y1 y2 y3) (formelaw10_TreePaths.j0 (k + 1) y0 y1 y2 y3)) ∧ (∀ y0 y1 y2 y3, LeO (formelaw10_TreePaths.l0 k y0 y1 y2 y3) (formelaw10_TreePaths.l0 (k + 1) y0 y1 y2 y3))
 | 0 => ⟨fun _ _ _ _ r h => by simp [formelaw10_TreePaths.j0] at h, fun _ _ _ _ r h => by simp [formelaw10_TreePaths.l0] at h⟩
 | k + 1 => by
  obtain ⟨ih0, ih1⟩ := formelaw10_TreePaths.mono_l k
  refine ⟨?_, ?_⟩
  ·intro y0 y1 y2 y3
   unfold formelaw10_TreePaths.j0
   repeat' first
   | (with_reducible exact ih0 _ _ _ _)
   | (with_reducible exact ih1 _ _ _ _)
   | (with_reducible exact formelaw10_head.mono _)
   | (with_reducible exact formelaw10_usable.mono _ _)
   | (with_reducible exact LeO.refl _)
   | (with_reducible exact LeO.none _)
   | (with_reducible refine LeO.ite ?_ ?_)
   | (with_reducible refine LeO.bind ?_ (fun _ => ?_))
   | exact ih0 _ _ _ _
   | exact ih1 _ _ _ _
   | exact formelaw10_head.mono _
   | exact formelaw10_usable.mono _ _
   | exact LeO.none _
   | refine LeO.ite ?_ ?_
   | refine LeO.bind ?_ (fun _ => ?_)
  ·intro y0 y1 y2 y3
   unfold formelaw10_TreePaths.l0
   repeat' first
   | (with_reducible exact ih0 _ _ _ _)
   | (with_reducible exact ih1 _ _ _ _)
   | (with_reducible exact formelaw10_head.mono _)
   | (with_reducible exact formelaw10_usable.mono _ _)
   | (with_reducible exact LeO.refl _)
   | (with_reducible exact LeO.none _)
   | (with_reducible refine LeO.ite ?_ ?_)
   | (with_reducible refine LeO.bind ?_ (fun _ => ?_))
   | exact ih0 _ _ _ _
   | exact ih1 _ _ _ _
   | exact formelaw10_head.mono _
   | exact formelaw10_usable.mono _ _
   | exact LeO.none _
   | refine LeO.ite ?_ ?_
   | refine LeO.bind ?_ (fun _ => ?_)
theorem formelaw10_TreePaths.mono : ∀ a0 a1 k, LeO (formelaw10_TreePaths.f k a0 a1) (formelaw10_TreePaths.f (k + 1) a0 a1) := by
 intro a0 a1 k
 obtain ⟨ih0, ih1⟩ := formelaw10_TreePaths.mono_l k
 unfold formelaw10_TreePaths.f
 repeat' first
   | (with_reducible exact ih0 _ _ _ _)
   | (with_reducible exact ih1 _ _ _ _)
   | (with_reducible exact formelaw10_head.mono _)
   | (with_reducible exact formelaw10_usable.mono _ _)
   | (with_reducible exact LeO.refl _)
   | (with_reducible exact LeO.none _)
   | (with_reducible refine LeO.ite ?_ ?_)
   | (with_reducible refine LeO.bind ?_ (fun _ => ?_))
   | exact ih0 _ _ _ _
   | exact ih1 _ _ _ _
   | exact formelaw10_head.mono _
   | exact formelaw10_usable.mono _ _
   | exact LeO.none _
   | refine LeO.ite ?_ ?_
   | refine LeO.bind ?_ (fun _ => ?_)
set_option maxHeartbeats 8000000 in
set_option maxRecDepth 100000 in
theorem formelaw10_TreePaths.calls (k : Nat) (A0 : Option Addr) (c0 : Nat) (l0 : List (S24)) (a1 : Int) (r : Bool) (w : World) (hr0 : Kd.C k24 w A0 l0.length l0) (hc0 : l0.length ≤ c0) (h : formelaw10_TreePaths.f k l0 a1 = some r) :
  Calls Try.prog 5 #[.slice A0 l0.length c0, .int .u8 a1] w fun e w' => e = .returned (.bool r) ∧ Below w.heap.size w w' := by
 have HR0 := Aside0.mk hr0
 have HC0 := Aside0.mk hc0
 clear hr0 hc0
 have HB := Aside0.mk (Below.refl w.heap.size w)
 have H : ((formelaw10_head.f k).bind fun t481 => ((formelaw10_usable.f k l0).bind fun t482 => (if t482 = true then (if (l0.length : Int) = 0 then (none) else (if 0 ≤ (Int.tmod (wrap64 (a1)) (l0.length : Int)) then (if (Int.tmod (wrap64 (a1)) (l0.length : Int)) < (l0.length : Int) then ((tree_Path.f l0 ((rd_T24 l0 (Int.tmod (wrap64 (a1)) (l0.length : Int))).f0)).bind fun bt484 => (if bt484.2 = 0 then (if (bt484.1.length : Int) < 1 then (formelaw10_TreePaths.j0 k l0 t481 bt484.1 true) else (if (bt484.1.length : Int) > 30 then (formelaw10_TreePaths.j0 k l0 t481 bt484.1 true) else (if 0 < (bt484.1.length : Int) then (if 0 < (l0.length : Int) then (if (rd bt484.1 0) = ((rd_T24 l0 0).f0) then (if 0 ≤ (wrap64 ((bt484.1.length : Int) - 1)) then (if (wrap64 ((bt484.1.length : Int) - 1)) < (bt484.1.length : Int) then (formelaw10_TreePaths.j0 k l0 t481 bt484.1 ((rd bt484.1 (wrap64 ((bt484.1.length : Int) - 1))) != ((rd_T24 l0 (Int.tmod (wrap64 (a1)) (l0.length : Int))).f0))) else (none)) else (none)) else (formelaw10_TreePaths.j0 k l0 t481 bt484.1 true)) else (none)) else (none)))) else (formelaw10_TreePaths.j0 k l0 t481 bt484.1 true))) else (none)) else (none))) else (some t481)))) = some r := h
 clear h
 replace H := Option.bind_eq_some_iff.mp H
 obtain ⟨t481, A30, H⟩ := H
 try dsimp only at H
 have A3 := Aside0.mk A30
 clear A30
 replace H := Option.bind_eq_some_iff.mp H
 obtain ⟨t482, A40, H⟩ := H
 try dsimp only at H
 have A4 := Aside0.mk A40
 clear A40
 by_cases c5 : t482 = true
 ·subst c5
  have H1 : (if (l0.length : Int) = 0 then (none) else (if 0 ≤ (Int.tmod (wrap64 (a1)) (l0.length : Int)) then (if (Int.tmod (wrap64 (a1)) (l0.length : Int)) < (l0.length : Int) then ((tree_Path.f l0 ((rd_T24 l0 (Int.tmod (wrap64 (a1)) (l0.length : Int))).f0)).bind fun bt484 => (if bt484.2 = 0 then (if (bt484.1.length : Int) < 1 then (formelaw10_TreePaths.j0 k l0 t481 bt484.1 true) else (if (bt484.1.length : Int) > 30 then (formelaw10_TreePaths.j0 k l0 t481 bt484.1 true) else (if 0 < (bt484.1.length : Int) then (if 0 < (l0.length : Int) then (if (rd bt484.1 0) = ((rd_T24 l0 0).f0) then (if 0 ≤ (wrap64 ((bt484.1.length : Int) - 1)) then (if (wrap64 ((bt484.1.length : Int) - 1)) < (bt484.1.length : Int) then (formelaw10_TreePaths.j0 k l0 t481 bt484.1 ((rd bt484.1 (wrap64 ((bt484.1.length : Int) - 1))) != ((rd_T24 l0 (Int.tmod (wrap64 (a1)) (l0.length : Int))).f0))) else (none)) else (none)) else (formelaw10_TreePaths.j0 k l0 t481 bt484.1 true)) else (none)) else (none)))) else (formelaw10_TreePaths.j0 k l0 t481 bt484.1 true))) else (none)) else (none))) = some r := by rw [if_pos rfl] at H; exact H
  clear H
  have H := H1
  clear H1
  by_cases c6 : (l0.length : Int) = 0
  ·rw [if_pos c6] at H
   exact absurd H (by simp)
  ·rw [if_neg c6] at H
   have c6b0 : ((l0.length : Int) == 0) = false := beq_eq_false_iff_ne.mpr c6
   have c6b1 : ((l0.length : Int) != 0) = true := bne_iff_ne.mpr c6
   have c6b2 : ¬ (l0 = []) := fun h_ => c6 (by rw [h_]; rfl)
   obtain ⟨ji7, hji7⟩ : ∃ j_ : Int, (Int.tmod (wrap64 (a1)) (l0.length : Int)) = j_ := ⟨_, rfl⟩
   replace H : (if 0 ≤ (ji7) then (if (ji7) < (l0.length : Int) then ((tree_Path.f l0 ((rd_T24 l0 (ji7)).f0)).bind fun bt484 => (if bt484.2 = 0 then (if (bt484.1.length : Int) < 1 then (formelaw10_TreePaths.j0 k l0 t481 bt484.1 true) else (if (bt484.1.length : Int) > 30 then (formelaw10_TreePaths.j0 k l0 t481 bt484.1 true) else (if 0 < (bt484.1.length : Int) then (if 0 < (l0.length : Int) then (if (rd bt484.1 0) = ((rd_T24 l0 0).f0) then (if 0 ≤ (wrap64 ((bt484.1.length : Int) - 1)) then (if (wrap64 ((bt484.1.length : Int) - 1)) < (bt484.1.length : Int) then (formelaw10_TreePaths.j0 k l0 t481 bt484.1 ((rd bt484.1 (wrap64 ((bt484.1.length : Int) - 1))) != ((rd_T24 l0 (ji7)).f0))) else (none)) else (none)) else (formelaw10_TreePaths.j0 k l0 t481 bt484.1 true)) else (none)) else (none)))) else (formelaw10_TreePaths.j0 k l0 t481 bt484.1 true))) else (none)) else (none)) = some r := by first | (rw [hji7] at H; exact H) | (simp only [hji7] at H ⊢; exact H)
   (try rw [hji7] at A3)
   (try rw [hji7] at A4)
   by_cases c8 : 0 ≤ (ji7)
   rotate_left
   ·rw [if_neg c8] at H; exact absurd H (by simp)
   rw [if_pos c8] at H
   have c8b0 : decide (0 ≤ (ji7)) = true := decide_eq_true c8
   clear c8
   by_cases c9 : (ji7) < (l0.length : Int)
   rotate_left
   ·rw [if_neg c9] at H; exact absurd H (by simp)
   rw [if_pos c9] at H
   have c9b0 : decide ((ji7) < (l0.length : Int)) = true := decide_eq_true c9
   clear c9
   replace H := Option.bind_eq_some_iff.mp H
   obtain ⟨⟨t484, t485⟩, A100, H⟩ := H
   try dsimp only at H
   have A10 := Aside0.mk A100
   clear A100
   have HC11 := Aside0.mk H
   clear H
   go_enter Try.func5, Try.ntmps5
   go_upto_region 6 with (first | (go_at_call 9; (with_reducible refine (formelaw10_head.calls k  t481 _ A3.out).mono ?_); rintro e w12 ⟨rfl, hb⟩; have n0_ := Aside0.mk (below_step (by repeat (first | (with_reducible first | exact HB.out | apply below_alloc | apply pw_below_drewN | apply below_drew1) | exact HB.out)) hb); clear HB; have HB := n0_; clear n0_; (try clear hb); (try clear hb2); (try clear hk); (try clear hi)) | (go_at_call 27; (with_reducible refine (formelaw10_usable.calls k _ _ l0 true _ ?side1 ?side2 A4.out).mono ?_); (case side1 => repeat (first | exact (Kd.C_below HR0.out HB.out) | (with_reducible refine Kd.C_alloc ?_ _) | (with_reducible refine Kd.C_drewN ?_ _) | (with_reducible refine Kd.C_drew ?_))); (case side2 => exact HC0.out); rintro e w13 ⟨rfl, hb⟩; have n0_ := Aside0.mk (below_step (by repeat (first | (with_reducible first | exact HB.out | apply below_alloc | apply pw_below_drewN | apply below_drew1) | exact HB.out)) hb); clear HB; have HB := n0_; clear n0_; (try clear hb); (try clear hb2); (try clear hk); (try clear hi); have p483 : 0 ≤ ((ji7) : Int) := of_decide_eq_true (by first | (with_reducible assumption) | assumption); have q483 : (ji7) < (l0.length : Int) := of_decide_eq_true (by first | (with_reducible assumption) | assumption); obtain ⟨ad483, e483, hx483_0, hx483_1, hx483_2, hx483_3, hx483_4⟩ := at_T24 HR0.out (ji7) p483 q483; cases e483; replace hx483_0 := (HB.out.cell (World.block_lt_of_cell? w _ hx483_0)).trans hx483_0; replace hx483_1 := (HB.out.cell (World.block_lt_of_cell? w _ hx483_1)).trans hx483_1; replace hx483_2 := (HB.out.cell (World.block_lt_of_cell? w _ hx483_2)).trans hx483_2; replace hx483_3 := (HB.out.cell (World.block_lt_of_cell? w _ hx483_3)).trans hx483_3; replace hx483_4 := (HB.out.cell (World.block_lt_of_cell? w _ hx483_4)).trans hx483_4; replace p483 := eq_true p483; replace q483 := eq_true q483) | (go_at_call 18; (with_reducible refine (tree_Path.calls _ _ l0 ((rd_T24 l0 (ji7)).f0) t484 t485 _ ?side1 ?side2 A10.out).mono ?_); (case side1 => repeat (first | exact (Kd.C_below HR0.out HB.out) | (with_reducible refine Kd.C_alloc ?_ _) | (with_reducible refine Kd.C_drewN ?_ _) | (with_reducible refine Kd.C_drew ?_))); (case side2 => exact HC0.out); rintro e w14 ⟨v486, rfl, ho0, hb⟩; have n0_ := Aside0.mk (Kd.R_lower ho0 (below_size (by repeat (first | (with_reducible first | exact HB.out | apply below_alloc | apply pw_below_drewN | apply below_drew1) | exact HB.out)))); have n1_ := Aside0.mk (below_step (by repeat (first | (with_reducible first | exact HB.out | apply below_alloc | apply pw_below_drewN | apply below_drew1) | exact HB.out)) hb); clear HB; have HO487 := n0_; have HB := n1_; clear n0_ n1_; (try clear hb); (try clear hb2); (try clear hk); (try clear hi); (try clear ho0)))
   repeat (go_quiet (first | (go_at_call 9; (with_reducible refine (formelaw10_head.calls k  t481 _ A3.out).mono ?_); rintro e w12 ⟨rfl, hb⟩; have n0_ := Aside0.mk (below_step (by repeat (first | (with_reducible first | exact HB.out | apply below_alloc | apply pw_below_drewN | apply below_drew1) | exact HB.out)) hb); clear HB; have HB := n0_; clear n0_; (try clear hb); (try clear hb2); (try clear hk); (try clear hi)) | (go_at_call 27; (with_reducible refine (formelaw10_usable.calls k _ _ l0 true _ ?side1 ?side2 A4.out).mono ?_); (case side1 => repeat (first | exact (Kd.C_below HR0.out HB.out) | (with_reducible refine Kd.C_alloc ?_ _) | (with_reducible refine Kd.C_drewN ?_ _) | (with_reducible refine Kd.C_drew ?_))); (case side2 => exact HC0.out); rintro e w13 ⟨rfl, hb⟩; have n0_ := Aside0.mk (below_step (by repeat (first | (with_reducible first | exact HB.out | apply below_alloc | apply pw_below_drewN | apply below_drew1) | exact HB.out)) hb); clear HB; have HB := n0_; clear n0_; (try clear hb); (try clear hb2); (try clear hk); (try clear hi); have p483 : 0 ≤ ((ji7) : Int) := of_decide_eq_true (by first | (with_reducible assumption) | assumption); have q483 : (ji7) < (l0.length : Int) := of_decide_eq_true (by first | (with_reducible assumption) | assumption); obtain ⟨ad483, e483, hx483_0, hx483_1, hx483_2, hx483_3, hx483_4⟩ := at_T24 HR0.out (ji7) p483 q483; cases e483; replace hx483_0 := (HB.out.cell (World.block_lt_of_cell? w _ hx483_0)).trans hx483_0; replace hx483_1 := (HB.out.cell (World.block_lt_of_cell? w _ hx483_1)).trans hx483_1; replace hx483_2 := (HB.out.cell (World.block_lt_of_cell? w _ hx483_2)).trans hx483_2; replace hx483_3 := (HB.out.cell (World.block_lt_of_cell? w _ hx483_3)).trans hx483_3; replace hx483_4 := (HB.out.cell (World.block_lt_of_cell? w _ hx483_4)).trans hx483_4; replace p483 := eq_true p483; replace q483 := eq_true q483) | (go_at_call 18; (with_reducible refine (tree_Path.calls _ _ l0 ((rd_T24 l0 (ji7)).f0) t484 t485 _ ?side1 ?side2 A10.out).mono ?_); (case side1 => repeat (first | exact (Kd.C_below HR0.out HB.out) | (with_reducible refine Kd.C_alloc ?_ _) | (with_reducible refine Kd.C_drewN ?_ _) | (with_reducible refine Kd.C_drew ?_))); (case side2 => exact HC0.out); rintro e w14 ⟨v486, rfl, ho0, hb⟩; have n0_ := Aside0.mk (Kd.R_lower ho0 (below_size (by repeat (first | (with_reducible first | exact HB.out | apply below_alloc | apply pw_below_drewN | apply below_drew1) | exact HB.out)))); have n1_ := Aside0.mk (below_step (by repeat (first | (with_reducible first | exact HB.out | apply below_alloc | apply pw_below_drewN | apply below_drew1) | exact HB.out)) hb); clear HB; have HO487 := n0_; have HB := n1_; clear n0_ n1_; (try clear hb); (try clear hb2); (try clear hk); (try clear hi); (try clear ho0))); go_upto_region 6 with (first | (go_at_call 9; (with_reducible refine (formelaw10_head.calls k  t481 _ A3.out).mono ?_); rintro e w12 ⟨rfl, hb⟩; have n0_ := Aside0.mk (below_step (by repeat (first | (with_reducible first | exact HB.out | apply below_alloc | apply pw_below_drewN | apply below_drew1) | exact HB.out)) hb); clear HB; have HB := n0_; clear n0_; (try clear hb); (try clear hb2); (try clear hk); (try clear hi)) | (go_at_call 27; (with_reducible refine (formelaw10_usable.calls k _ _ l0 true _ ?side1 ?side2 A4.out).mono ?_); (case side1 => repeat (first | exact (Kd.C_below HR0.out HB.out) | (with_reducible refine Kd.C_alloc ?_ _) | (with_reducible refine Kd.C_drewN ?_ _) | (with_reducible refine Kd.C_drew ?_))); (case side2 => exact HC0.out); rintro e w13 ⟨rfl, hb⟩; have n0_ := Aside0.mk (below_step (by repeat (first | (with_reducible first | exact HB.out | apply below_alloc | apply pw_below_drewN | apply below_drew1) | exact HB.out)) hb); clear HB; have HB := n0_; clear n0_; (try clear hb); (try clear hb2); (try clear hk); (try clear hi); have p483 : 0 ≤ ((ji7) : Int) := of_decide_eq_true (by first | (with_reducible assumption) | assumption); have q483 : (ji7) < (l0.length : Int) := of_decide_eq_true (by first | (with_reducible assumption) | assumption); obtain ⟨ad483, e483, hx483_0, hx483_1, hx483_2, hx483_3, hx483_4⟩ := at_T24 HR0.out (ji7) p483 q483; cases e483; replace hx483_0 := (HB.out.cell (World.block_lt_of_cell? w _ hx483_0)).trans hx483_0; replace hx483_1 := (HB.out.cell (World.block_lt_of_cell? w _ hx483_1)).trans hx483_1; replace hx483_2 := (HB.out.cell (World.block_lt_of_cell? w _ hx483_2)).trans hx483_2; replace hx483_3 := (HB.out.cell (World.block_lt_of_cell? w _ hx483_3)).trans hx483_3; replace hx483_4 := (HB.out.cell (World.block_lt_of_cell? w _ hx483_4)).trans hx483_4; replace p483 := eq_true p483; replace q483 := eq_true q483) | (go_at_call 18; (with_reducible refine (tree_Path.calls _ _ l0 ((rd_T24 l0 (ji7)).f0) t484 t485 _ ?side1 ?side2 A10.out).mono ?_); (case side1 => repeat (first | exact (Kd.C_below HR0.out HB.out) | (with_reducible refine Kd.C_alloc ?_ _) | (with_reducible refine Kd.C_drewN ?_ _) | (with_reducible refine Kd.C_drew ?_))); (case side2 => exact HC0.out); rintro e w14 ⟨v486, rfl, ho0, hb⟩; have n0_ := Aside0.mk (Kd.R_lower ho0 (below_size (by repeat (first | (with_reducible first | exact HB.out | apply below_alloc | apply pw_below_drewN | apply below_drew1) | exact HB.out)))); have n1_ := Aside0.mk (below_step (by repeat (first | (with_reducible first | exact HB.out | apply below_alloc | apply pw_below_drewN | apply below_drew1) | exact HB.out)) hb); clear HB; have HO487 := n0_; have HB := n1_; clear n0_ n1_; (try clear hb); (try clear hb2); (try clear hk); (try clear hi); (try clear ho0))))
   (try simp only [Act.put, List.setIfInBounds_toArray, List.set_cons_zero, List.set_cons_succ])
   go_cut [64] (fun v64 wc => ∃ (kq : Nat) (x64_10 : Bool), v64 = .bool x64_10 ∧ Aside0 (formelaw10_TreePaths.j0 kq l0 t481 t484 x64_10 = some r) ∧ Aside0 (kq ≤ k) ∧ Aside0 (Kd.R (Kd.int .i64) 3 wc w.heap.size (fun _ => True) v486 t484) ∧ Aside0 (Below w.heap.size w wc))
   case first =>
    have H := HC11.out
    clear HC11
    by_cases c15 : t485 = 0
    ·rw [if_pos c15] at H
     have c15b0 : (t485 == 0) = true := beq_iff_eq.mpr c15
     have c15b1 : (t485 != 0) = false := bne_eq_false_iff_eq.mpr c15
     clear c15
     (first | rw [c15b0] | (simp only [i64_w, i32_w]; rw [c15b0]) | skip)
     by_cases c16 : (t484.length : Int) < 1
     ·rw [if_pos c16] at H
      have c16b0 : decide ((t484.length : Int) < 1) = true := decide_eq_true c16
      have c16b1 : decide (t484.length < 1) = true := decide_eq_true (by omega)
      clear c16
      have H' := Aside0.mk H
      clear H
      obtain ⟨Ao17, co17, eo17⟩ := Kd.R_slice HO487.out
      subst eo17
      go_wp2
      repeat (go_quiet (fail); try go_wp2)
      go_meet
      case rel => exact ⟨_, (true), (by first | rfl | (simp; done) | (simp [*]; done)), H', ⟨by first | omega | exact Nat.le_refl _⟩, ⟨by (with_reducible repeat (first | apply Kd.R_alloc | apply Kd.R_drewN | apply Kd.R_drew)); exact HO487.out⟩, ⟨by repeat (first | (with_reducible first | exact HB.out | apply below_alloc | apply pw_below_drewN | apply below_drew1) | exact HB.out)⟩⟩
     ·rw [if_neg c16] at H
      have c16b0 : decide ((t484.length : Int) < 1) = false := decide_eq_false c16
      have c16b1 : decide (t484.length < 1) = false := decide_eq_false (by omega)
      clear c16
      by_cases c18 : (t484.length : Int) > 30
      ·rw [if_pos c18] at H
       have c18b0 : decide (30 < (t484.length : Int)) = true := decide_eq_true c18
       have c18b1 : decide (30 < t484.length) = true := decide_eq_true (by omega)
       clear c18
       have H' := Aside0.mk H
       clear H
       obtain ⟨Ao19, co19, eo19⟩ := Kd.R_slice HO487.out
       subst eo19
       go_wp2
       repeat (go_quiet (fail); try go_wp2)
       go_meet
       case rel => exact ⟨_, (true), (by first | rfl | (simp; done) | (simp [*]; done)), H', ⟨by first | omega | exact Nat.le_refl _⟩, ⟨by (with_reducible repeat (first | apply Kd.R_alloc | apply Kd.R_drewN | apply Kd.R_drew)); exact HO487.out⟩, ⟨by repeat (first | (with_reducible first | exact HB.out | apply below_alloc | apply pw_below_drewN | apply below_drew1) | exact HB.out)⟩⟩
      ·rw [if_neg c18] at H
       have c18b0 : decide (30 < (t484.length : Int)) = false := decide_eq_false c18
       have c18b1 : decide (30 < t484.length) = false := decide_eq_false (by omega)
       clear c18
       by_cases c20 : 0 < (t484.length : Int)
       rotate_left
       ·rw [if_neg c20] at H; exact absurd H (by simp)
       rw [if_pos c20] at H
       have c20b0 : decide (0 < (t484.length : Int)) = true := decide_eq_true c20
       have c20b1 : decide (0 < t484.length) = true := decide_eq_true (by omega)
       clear c20
       by_cases c21 : 0 < (l0.length : Int)
       rotate_left
       ·rw [if_neg c21] at H; exact absurd H (by simp)
       rw [if_pos c21] at H
       have c21b0 : decide (0 < (l0.length : Int)) = true := decide_eq_true c21
       have c21b1 : decide (0 < l0.length) = true := decide_eq_true (by omega)
       clear c21
       by_cases c22 : (rd t484 0) = ((rd_T24 l0 0).f0)
       ·rw [if_pos c22] at H
        have c22b0 : ((rd t484 0) == ((rd_T24 l0 0).f0)) = true := beq_iff_eq.mpr c22
        have c22b1 : ((rd t484 0) != ((rd_T24 l0 0).f0)) = false := bne_eq_false_iff_eq.mpr c22
        clear c22
        obtain ⟨ji23, hji23⟩ : ∃ j_ : Int, (wrap64 ((t484.length : Int) - 1)) = j_ := ⟨_, rfl⟩
        replace H : (if 0 ≤ (ji23) then (if (ji23) < (t484.length : Int) then (formelaw10_TreePaths.j0 k l0 t481 t484 ((rd t484 (ji23)) != ((rd_T24 l0 (ji7)).f0))) else (none)) else (none)) = some r := by first | (rw [hji23] at H; exact H) | (simp only [hji23] at H ⊢; exact H)
        have hji23w : (IntKind.i64.wrap ((t484.length : Int) - 1)) = ji23 := (i64_w _).trans hji23
        by_cases c24 : 0 ≤ (ji23)
        rotate_left
        ·rw [if_neg c24] at H; exact absurd H (by simp)
        rw [if_pos c24] at H
        have c24b0 : decide (0 ≤ (ji23)) = true := decide_eq_true c24
        clear c24
        by_cases c25 : (ji23) < (t484.length : Int)
        rotate_left
        ·rw [if_neg c25] at H; exact absurd H (by simp)
        rw [if_pos c25] at H
        have c25b0 : decide ((ji23) < (t484.length : Int)) = true := decide_eq_true c25
        clear c25
        have H' := Aside0.mk H
        clear H
        obtain ⟨Ao26, co26, eo26⟩ := Kd.R_slice HO487.out
        subst eo26
        have p488 : 0 ≤ (0 : Int) := (by omega)
        have q488 : 0 < (t484.length : Int) := of_decide_eq_true (by first | (with_reducible assumption) | assumption)
        obtain ⟨ad488, e488, hx488_0⟩ := Kd.at_int (Kd.R_reads' HO487.out).2.2 0 p488 q488
        cases e488
        have qi488 : (0 < t484.length) = True := eq_true (by omega)
        (try rw [show ((0 : Int)).toNat = 0 from rfl] at hx488_0)
        (try rw [Addr.add_zero'] at hx488_0)
        replace p488 := eq_true p488
        replace q488 := eq_true q488
        have p489 : 0 ≤ (0 : Int) := (by omega)
        have q489 : 0 < (l0.length : Int) := of_decide_eq_true (by first | (with_reducible assumption) | assumption)
        obtain ⟨ad489, e489, hx489_0, hx489_1, hx489_2, hx489_3, hx489_4⟩ := at_T24 HR0.out 0 p489 q489
        obtain rfl : ad483 = ad489 := (by injection e489)
        have qi489 : (0 < l0.length) = True := eq_true (by omega)
        (try rw [show ((0 : Int)).toNat = 0 from rfl] at hx489_0)
        (try rw [show 0 * 5 = 0 from rfl] at hx489_0)
        (try rw [Addr.add_zero'] at hx489_0)
        (try rw [show ((0 : Int)).toNat = 0 from rfl] at hx489_1)
        (try rw [show 0 * 5 = 0 from rfl] at hx489_1)
        (try rw [Addr.add_zero'] at hx489_1)
        (try rw [show ((0 : Int)).toNat = 0 from rfl] at hx489_2)
        (try rw [show 0 * 5 = 0 from rfl] at hx489_2)
        (try rw [Addr.add_zero'] at hx489_2)
        (try rw [show ((0 : Int)).toNat = 0 from rfl] at hx489_3)
        (try rw [show 0 * 5 = 0 from rfl] at hx489_3)
        (try rw [Addr.add_zero'] at hx489_3)
        (try rw [show ((0 : Int)).toNat = 0 from rfl] at hx489_4)
        (try rw [show 0 * 5 = 0 from rfl] at hx489_4)
        (try rw [Addr.add_zero'] at hx489_4)
        replace hx489_0 := (HB.out.cell (World.block_lt_of_cell? w _ hx489_0)).trans hx489_0
        replace hx489_1 := (HB.out.cell (World.block_lt_of_cell? w _ hx489_1)).trans hx489_1
        replace hx489_2 := (HB.out.cell (World.block_lt_of_cell? w _ hx489_2)).trans hx489_2
        replace hx489_3 := (HB.out.cell (World.block_lt_of_cell? w _ hx489_3)).trans hx489_3
        replace hx489_4 := (HB.out.cell (World.block_lt_of_cell? w _ hx489_4)).trans hx489_4
        replace p489 := eq_true p489
        replace q489 := eq_true q489
        have p490 : 0 ≤ ((ji23) : Int) := of_decide_eq_true (by first | (with_reducible assumption) | assumption)
        have q490 : (ji23) < (t484.length : Int) := of_decide_eq_true (by first | (with_reducible assumption) | assumption)
        obtain ⟨ad490, e490, hx490_0⟩ := Kd.at_int (Kd.R_reads' HO487.out).2.2 (ji23) p490 q490
        obtain rfl : ad488 = ad490 := (by injection e490)
        replace p490 := eq_true p490
        replace q490 := eq_true q490
        go_wp2
        repeat (go_quiet (fail); try go_wp2)
        go_meet
        case rel => exact ⟨_, (((rd t484 (ji23)) != ((rd_T24 l0 (ji7)).f0))), (by first | rfl | (simp; done) | (simp only [← hji7, ← hji23] <;> (first | rfl | simp)) | (simp [*]; done)), H', ⟨by first | omega | exact Nat.le_refl _⟩, ⟨by (with_reducible repeat (first | apply Kd.R_alloc | apply Kd.R_drewN | apply Kd.R_drew)); exact HO487.out⟩, ⟨by repeat (first | (with_reducible first | exact HB.out | apply below_alloc | apply pw_below_drewN | apply below_drew1) | exact HB.out)⟩⟩
       ·rw [if_neg c22] at H
        have c22b0 : ((rd t484 0) == ((rd_T24 l0 0).f0)) = false := beq_eq_false_iff_ne.mpr c22
        have c22b1 : ((rd t484 0) != ((rd_T24 l0 0).f0)) = true := bne_iff_ne.mpr c22
        have H' := Aside0.mk H
        clear H
        obtain ⟨Ao27, co27, eo27⟩ := Kd.R_slice HO487.out
        subst eo27
        have p488 : 0 ≤ (0 : Int) := (by omega)
        have q488 : 0 < (t484.length : Int) := of_decide_eq_true (by first | (with_reducible assumption) | assumption)
        obtain ⟨ad488, e488, hx488_0⟩ := Kd.at_int (Kd.R_reads' HO487.out).2.2 0 p488 q488
        cases e488
        have qi488 : (0 < t484.length) = True := eq_true (by omega)
        (try rw [show ((0 : Int)).toNat = 0 from rfl] at hx488_0)
        (try rw [Addr.add_zero'] at hx488_0)
        replace p488 := eq_true p488
        replace q488 := eq_true q488
        have p489 : 0 ≤ (0 : Int) := (by omega)
        have q489 : 0 < (l0.length : Int) := of_decide_eq_true (by first | (with_reducible assumption) | assumption)
        obtain ⟨ad489, e489, hx489_0, hx489_1, hx489_2, hx489_3, hx489_4⟩ := at_T24 HR0.out 0 p489 q489
        obtain rfl : ad483 = ad489 := (by injection e489)
        have qi489 : (0 < l0.length) = True := eq_true (by omega)
        (try rw [show ((0 : Int)).toNat = 0 from rfl] at hx489_0)
        (try rw [show 0 * 5 = 0 from rfl] at hx489_0)
        (try rw [Addr.add_zero'] at hx489_0)
        (try rw [show ((0 : Int)).toNat = 0 from rfl] at hx489_1)
        (try rw [show 0 * 5 = 0 from rfl] at hx489_1)
        (try rw [Addr.add_zero'] at hx489_1)
        (try rw [show ((0 : Int)).toNat = 0 from rfl] at hx489_2)
        (try rw [show 0 * 5 = 0 from rfl] at hx489_2)
        (try rw [Addr.add_zero'] at hx489_2)
        (try rw [show ((0 : Int)).toNat = 0 from rfl] at hx489_3)
        (try rw [show 0 * 5 = 0 from rfl] at hx489_3)
        (try rw [Addr.add_zero'] at hx489_3)
        (try rw [show ((0 : Int)).toNat = 0 from rfl] at hx489_4)
        (try rw [show 0 * 5 = 0 from rfl] at hx489_4)
        (try rw [Addr.add_zero'] at hx489_4)
        replace hx489_0 := (HB.out.cell (World.block_lt_of_cell? w _ hx489_0)).trans hx489_0
        replace hx489_1 := (HB.out.cell (World.block_lt_of_cell? w _ hx489_1)).trans hx489_1
        replace hx489_2 := (HB.out.cell (World.block_lt_of_cell? w _ hx489_2)).trans hx489_2
        replace hx489_3 := (HB.out.cell (World.block_lt_of_cell? w _ hx489_3)).trans hx489_3
        replace hx489_4 := (HB.out.cell (World.block_lt_of_cell? w _ hx489_4)).trans hx489_4
        replace p489 := eq_true p489
        replace q489 := eq_true q489
        go_wp2
        repeat (go_quiet (fail); try go_wp2)
        go_meet
        case rel => exact ⟨_, (true), (by first | rfl | (simp; done) | (simp [*]; done)), H', ⟨by first | omega | exact Nat.le_refl _⟩, ⟨by (with_reducible repeat (first | apply Kd.R_alloc | apply Kd.R_drewN | apply Kd.R_drew)); exact HO487.out⟩, ⟨by repeat (first | (with_reducible first | exact HB.out | apply below_alloc | apply pw_below_drewN | apply below_drew1) | exact HB.out)⟩⟩
    ·rw [if_neg c15] at H
     have c15b0 : (t485 == 0) = false := beq_eq_false_iff_ne.mpr c15
     have c15b1 : (t485 != 0) = true := bne_iff_ne.mpr c15
     (first | rw [c15b0] | (simp only [i64_w, i32_w]; rw [c15b0]) | skip)
     have H' := Aside0.mk H
     clear H
     go_wp2
     repeat (go_quiet (fail); try go_wp2)
     go_meet
     case rel => exact ⟨_, (true), (by first | rfl | (simp; done) | (simp [*]; done)), H', ⟨by first | omega | exact Nat.le_refl _⟩, ⟨by (with_reducible repeat (first | apply Kd.R_alloc | apply Kd.R_drewN | apply Kd.R_drew)); exact HO487.out⟩, ⟨by repeat (first | (with_reducible first | exact HB.out | apply below_alloc | apply pw_below_drewN | apply below_drew1) | exact HB.out)⟩⟩
   case rest =>
    clear HC11
    try clear c1
    try clear c2
    try clear p2
    try clear p4
    try clear q4
    try clear hx4
    try clear qi4
    try clear c5
    try clear c6
    try clear c6b0
    try clear c6b1
    try clear c6b2
    try clear p6
    try clear c8
    try clear c8b0
    try clear c9
    try clear c9b0
    try clear c15
    try clear c15b0
    try clear c15b1
    try clear c16
    try clear c16b0
    try clear c16b1
    try clear c18
    try clear c18b0
    try clear c18b1
    try clear c20
    try clear c20b0
    try clear c20b1
    try clear c21
    try clear c21b0
    try clear c21b1
    try clear c22
    try clear c22b0
    try clear c22b1
    try clear c24
    try clear c24b0
    try clear c25
    try clear c25b0
    try clear hx483_0
    try clear hx483_1
    try clear hx483_2
    try clear hx483_3
    try clear hx483_4
    try clear hx488_0
    try clear hx489_0
    try clear hx489_1
    try clear hx489_2
    try clear hx489_3
    try clear hx489_4
    try clear hx490_0
    try clear p483
    try clear p488
    try clear p489
    try clear p490
    try clear q483
    try clear q488
    try clear q489
    try clear q490
    obtain ⟨kq, x64_10, rfl, HA, HJ10, HO_7, HB⟩ := hcut
    cases kq with
    | zero => exact absurd HA.out (by simp [formelaw10_TreePaths.j0])
    | succ kj10 =>
     have H := HA.out
     clear HA
     simp only [formelaw10_TreePaths.j0] at H
     by_cases c28 : x64_10 = true
     ·subst c28
      have H1 : (none) = some r := by rw [if_pos rfl] at H; exact H
      clear H
      have H := H1
      clear H1
      exact absurd H (by simp)
     ·replace c28 := Bool.eq_false_iff.mpr c28
      subst c28
      have H1 : (formelaw10_TreePaths.l0 kj10 l0 t481 t484 1) = some r := by rw [if_neg (show ¬ (false = true) by decide)] at H; exact H
      clear H
      have H := H1
      clear H1
      have H' := Aside0.mk H
      clear H
      go_wp2
      repeat (go_quiet (fail); try go_wp2)
      go_loopg [9] kj10 (fun kq v9 w' => ∃ (x9_2 : Int), v9 = .int .i64 x9_2 ∧ Aside0 (formelaw10_TreePaths.l0 kq l0 t481 t484 x9_2 = some r) ∧ Aside0 (kq ≤ kj10) ∧ Aside0 (Kd.R (Kd.int .i64) 3 w' w.heap.size (fun _ => True) v486 t484) ∧ Aside0 (Below w.heap.size w w'))
      case atStart => exact ⟨(1), (by first | rfl | (simp; done) | (simp [*]; done)), H', ⟨Nat.le_refl _⟩, ⟨by (with_reducible repeat (first | apply Kd.R_alloc | apply Kd.R_drewN | apply Kd.R_drew)); exact HO_7.out⟩, ⟨by repeat (first | (with_reducible first | exact HB.out | apply below_alloc | apply pw_below_drewN | apply below_drew1) | exact HB.out)⟩⟩
      case round =>
       clear H'
       try clear c1
       try clear c2
       try clear p2
       try clear p4
       try clear q4
       try clear hx4
       try clear qi4
       try clear c5
       try clear c6
       try clear c6b0
       try clear c6b1
       try clear c6b2
       try clear p6
       try clear c8
       try clear c8b0
       try clear c9
       try clear c9b0
       try clear c15
       try clear c15b0
       try clear c15b1
       try clear c16
       try clear c16b0
       try clear c16b1
       try clear c18
       try clear c18b0
       try clear c18b1
       try clear c20
       try clear c20b0
       try clear c20b1
       try clear c21
       try clear c21b0
       try clear c21b1
       try clear c22
       try clear c22b0
       try clear c22b1
       try clear c24
       try clear c24b0
       try clear c25
       try clear c25b0
       try clear c28
       try clear hx483_0
       try clear hx483_1
       try clear hx483_2
       try clear hx483_3
       try clear hx483_4
       try clear hx488_0
       try clear hx489_0
       try clear hx489_1
       try clear hx489_2
       try clear hx489_3
       try clear hx489_4
       try clear hx490_0
       try clear p2
       try clear p4
       try clear p483
       try clear p488
       try clear p489
       try clear p490
       try clear p6
       try clear q4
       try clear q483
       try clear q488
       try clear q489
       try clear q490
       obtain ⟨x9_2, rfl, HA, HK2, HO_7, HB⟩ := hrel
       cases gk with
       | zero => exact absurd HA.out (by simp [formelaw10_TreePaths.l0])
       | succ k2 =>
        have H := HA.out
        clear HA
        simp only [formelaw10_TreePaths.l0] at H
        by_cases c29 : x9_2 < (t484.length : Int)
        ·rw [if_pos c29] at H
         have c29b0 : decide (x9_2 < (t484.length : Int)) = true := decide_eq_true c29
         clear c29
         by_cases c30 : 0 ≤ x9_2
         rotate_left
         ·rw [if_neg c30] at H; exact absurd H (by simp)
         rw [if_pos c30] at H
         have c30b0 : decide (0 ≤ x9_2) = true := decide_eq_true c30
         clear c30
         replace H := Option.bind_eq_some_iff.mp H
         obtain ⟨⟨t492, t493, t494⟩, A310, H⟩ := H
         try dsimp only at H
         have A31 := Aside0.mk A310
         clear A310
         by_cases c32 : t494 = 0
         rotate_left
         ·rw [if_neg c32] at H; exact absurd H (by simp)
         rw [if_pos c32] at H
         have c32b0 : (t494 == 0) = true := beq_iff_eq.mpr c32
         have c32b1 : (t494 != 0) = false := bne_eq_false_iff_eq.mpr c32
         clear c32
         by_cases c33 : t493 = true
         ·subst c33
          have H1 : (if t492 < 0 then (none) else (if t492 ≥ (l0.length : Int) then (none) else (if 0 ≤ t492 then (if t492 < (l0.length : Int) then (if 0 ≤ (wrap64 (x9_2 - 1)) then (if (wrap64 (x9_2 - 1)) < (t484.length : Int) then (if ((rd_T24 l0 t492).f1) = (rd t484 (wrap64 (x9_2 - 1))) then (formelaw10_TreePaths.l0 k2 l0 t481 t484 (wrap64 (x9_2 + 1))) else (none)) else (none)) else (none)) else (none)) else (none)))) = some r := by rw [if_pos rfl] at H; exact H
          clear H
          have H := H1
          clear H1
          by_cases c34 : t492 < 0
          ·rw [if_pos c34] at H
           exact absurd H (by simp)
          ·rw [if_neg c34] at H
           have c34b0 : decide (t492 < 0) = false := decide_eq_false c34
           clear c34
           by_cases c35 : t492 ≥ (l0.length : Int)
           ·rw [if_pos c35] at H
            exact absurd H (by simp)
           ·rw [if_neg c35] at H
            have c35b0 : decide ((l0.length : Int) ≤ t492) = false := decide_eq_false c35
            clear c35
            by_cases c36 : 0 ≤ t492
            rotate_left
            ·rw [if_neg c36] at H; exact absurd H (by simp)
            rw [if_pos c36] at H
            have c36b0 : decide (0 ≤ t492) = true := decide_eq_true c36
            clear c36
            by_cases c37 : t492 < (l0.length : Int)
            rotate_left
            ·rw [if_neg c37] at H; exact absurd H (by simp)
            rw [if_pos c37] at H
            have c37b0 : decide (t492 < (l0.length : Int)) = true := decide_eq_true c37
            clear c37
            obtain ⟨ji38, hji38⟩ : ∃ j_ : Int, (wrap64 (x9_2 - 1)) = j_ := ⟨_, rfl⟩
            replace H : (if 0 ≤ (ji38) then (if (ji38) < (t484.length : Int) then (if ((rd_T24 l0 t492).f1) = (rd t484 (ji38)) then (formelaw10_TreePaths.l0 k2 l0 t481 t484 (wrap64 (x9_2 + 1))) else (none)) else (none)) else (none)) = some r := by first | (rw [hji38] at H; exact H) | (simp only [hji38] at H ⊢; exact H)
            (try rw [hji38] at A31)
            have hji38w : (IntKind.i64.wrap (x9_2 - 1)) = ji38 := (i64_w _).trans hji38
            by_cases c39 : 0 ≤ (ji38)
            rotate_left
            ·rw [if_neg c39] at H; exact absurd H (by simp)
            rw [if_pos c39] at H
            have c39b0 : decide (0 ≤ (ji38)) = true := decide_eq_true c39
            clear c39
            by_cases c40 : (ji38) < (t484.length : Int)
            rotate_left
            ·rw [if_neg c40] at H; exact absurd H (by simp)
            rw [if_pos c40] at H
            have c40b0 : decide ((ji38) < (t484.length : Int)) = true := decide_eq_true c40
            clear c40
            by_cases c41 : ((rd_T24 l0 t492).f1) = (rd t484 (ji38))
            rotate_left
            ·rw [if_neg c41] at H; exact absurd H (by simp)
            rw [if_pos c41] at H
            have c41b0 : (((rd_T24 l0 t492).f1) == (rd t484 (ji38))) = true := beq_iff_eq.mpr c41
            have c41b1 : (((rd_T24 l0 t492).f1) != (rd t484 (ji38))) = false := bne_eq_false_iff_eq.mpr c41
            clear c41
            have H' := Aside0.mk H
            clear H
            obtain ⟨Ao42, co42, eo42⟩ := Kd.R_slice HO_7.out
            subst eo42
            have p491 : 0 ≤ (x9_2 : Int) := of_decide_eq_true (by first | (with_reducible assumption) | assumption)
            have q491 : x9_2 < (t484.length : Int) := of_decide_eq_true (by first | (with_reducible assumption) | assumption)
            obtain ⟨ad491, e491, hx491_0⟩ := Kd.at_int (Kd.R_reads' HO_7.out).2.2 x9_2 p491 q491
            cases e491
            replace p491 := eq_true p491
            replace q491 := eq_true q491
            go_wp2_with (first | (go_at_call 11; (with_reducible refine (tree_Find.calls _ _ l0 (rd t484 x9_2) t492 true t494 _ ?side1 ?side2 A31.out).mono ?_); (case side1 => repeat (first | exact (Kd.C_below HR0.out HB.out) | (with_reducible refine Kd.C_alloc ?_ _) | (with_reducible refine Kd.C_drewN ?_ _) | (with_reducible refine Kd.C_drew ?_))); (case side2 => exact HC0.out); rintro e w43 ⟨rfl, hb⟩; have n0_ := Aside0.mk (Kd.R_below (by (with_reducible repeat (first | apply Kd.R_alloc | apply Kd.R_drewN | apply Kd.R_drew)); exact HO_7.out) hb); have n1_ := Aside0.mk (below_step (by repeat (first | (with_reducible first | exact HB.out | apply below_alloc | apply pw_below_drewN | apply below_drew1) | exact HB.out)) hb); clear HO_7; clear HB; have HO_7 := n0_; have HB := n1_; clear n0_ n1_; (try clear hb); (try clear hb2); (try clear hk); (try clear hi); have p495 : 0 ≤ (t492 : Int) := of_decide_eq_true (by first | (with_reducible assumption) | assumption); have q495 : t492 < (l0.length : Int) := of_decide_eq_true (by first | (with_reducible assumption) | assumption); obtain ⟨ad495, e495, hx495_0, hx495_1, hx495_2, hx495_3, hx495_4⟩ := at_T24 HR0.out t492 p495 q495; obtain rfl : ad483 = ad495 := (by injection e495); replace hx495_0 := (HB.out.cell (World.block_lt_of_cell? w _ hx495_0)).trans hx495_0; replace hx495_1 := (HB.out.cell (World.block_lt_of_cell? w _ hx495_1)).trans hx495_1; replace hx495_2 := (HB.out.cell (World.block_lt_of_cell? w _ hx495_2)).trans hx495_2; replace hx495_3 := (HB.out.cell (World.block_lt_of_cell? w _ hx495_3)).trans hx495_3; replace hx495_4 := (HB.out.cell (World.block_lt_of_cell? w _ hx495_4)).trans hx495_4; replace p495 := eq_true p495; replace q495 := eq_true q495; have p496 : 0 ≤ ((ji38) : Int) := of_decide_eq_true (by first | (with_reducible assumption) | assumption); have q496 : (ji38) < (t484.length : Int) := of_decide_eq_true (by first | (with_reducible assumption) | assumption); obtain ⟨ad496, e496, hx496_0⟩ := Kd.at_int (Kd.R_reads' HO_7.out).2.2 (ji38) p496 q496; obtain rfl : ad491 = ad496 := (by injection e496); replace p496 := eq_true p496; replace q496 := eq_true q496))
            repeat (go_quiet (first | (go_at_call 11; (with_reducible refine (tree_Find.calls _ _ l0 (rd t484 x9_2) t492 true t494 _ ?side1 ?side2 A31.out).mono ?_); (case side1 => repeat (first | exact (Kd.C_below HR0.out HB.out) | (with_reducible refine Kd.C_alloc ?_ _) | (with_reducible refine Kd.C_drewN ?_ _) | (with_reducible refine Kd.C_drew ?_))); (case side2 => exact HC0.out); rintro e w43 ⟨rfl, hb⟩; have n0_ := Aside0.mk (Kd.R_below (by (with_reducible repeat (first | apply Kd.R_alloc | apply Kd.R_drewN | apply Kd.R_drew)); exact HO_7.out) hb); have n1_ := Aside0.mk (below_step (by repeat (first | (with_reducible first | exact HB.out | apply below_alloc | apply pw_below_drewN | apply below_drew1) | exact HB.out)) hb); clear HO_7; clear HB; have HO_7 := n0_; have HB := n1_; clear n0_ n1_; (try clear hb); (try clear hb2); (try clear hk); (try clear hi); have p495 : 0 ≤ (t492 : Int) := of_decide_eq_true (by first | (with_reducible assumption) | assumption); have q495 : t492 < (l0.length : Int) := of_decide_eq_true (by first | (with_reducible assumption) | assumption); obtain ⟨ad495, e495, hx495_0, hx495_1, hx495_2, hx495_3, hx495_4⟩ := at_T24 HR0.out t492 p495 q495; obtain rfl : ad483 = ad495 := (by injection e495); replace hx495_0 := (HB.out.cell (World.block_lt_of_cell? w _ hx495_0)).trans hx495_0; replace hx495_1 := (HB.out.cell (World.block_lt_of_cell? w _ hx495_1)).trans hx495_1; replace hx495_2 := (HB.out.cell (World.block_lt_of_cell? w _ hx495_2)).trans hx495_2; replace hx495_3 := (HB.out.cell (World.block_lt_of_cell? w _ hx495_3)).trans hx495_3; replace hx495_4 := (HB.out.cell (World.block_lt_of_cell? w _ hx495_4)).trans hx495_4; replace p495 := eq_true p495; replace q495 := eq_true q495; have p496 : 0 ≤ ((ji38) : Int) := of_decide_eq_true (by first | (with_reducible assumption) | assumption); have q496 : (ji38) < (t484.length : Int) := of_decide_eq_true (by first | (with_reducible assumption) | assumption); obtain ⟨ad496, e496, hx496_0⟩ := Kd.at_int (Kd.R_reads' HO_7.out).2.2 (ji38) p496 q496; obtain rfl : ad491 = ad496 := (by injection e496); replace p496 := eq_true p496; replace q496 := eq_true q496)); try go_wp2_with (first | (go_at_call 11; (with_reducible refine (tree_Find.calls _ _ l0 (rd t484 x9_2) t492 true t494 _ ?side1 ?side2 A31.out).mono ?_); (case side1 => repeat (first | exact (Kd.C_below HR0.out HB.out) | (with_reducible refine Kd.C_alloc ?_ _) | (with_reducible refine Kd.C_drewN ?_ _) | (with_reducible refine Kd.C_drew ?_))); (case side2 => exact HC0.out); rintro e w43 ⟨rfl, hb⟩; have n0_ := Aside0.mk (Kd.R_below (by (with_reducible repeat (first | apply Kd.R_alloc | apply Kd.R_drewN | apply Kd.R_drew)); exact HO_7.out) hb); have n1_ := Aside0.mk (below_step (by repeat (first | (with_reducible first | exact HB.out | apply below_alloc | apply pw_below_drewN | apply below_drew1) | exact HB.out)) hb); clear HO_7; clear HB; have HO_7 := n0_; have HB := n1_; clear n0_ n1_; (try clear hb); (try clear hb2); (try clear hk); (try clear hi); have p495 : 0 ≤ (t492 : Int) := of_decide_eq_true (by first | (with_reducible assumption) | assumption); have q495 : t492 < (l0.length : Int) := of_decide_eq_true (by first | (with_reducible assumption) | assumption); obtain ⟨ad495, e495, hx495_0, hx495_1, hx495_2, hx495_3, hx495_4⟩ := at_T24 HR0.out t492 p495 q495; obtain rfl : ad483 = ad495 := (by injection e495); replace hx495_0 := (HB.out.cell (World.block_lt_of_cell? w _ hx495_0)).trans hx495_0; replace hx495_1 := (HB.out.cell (World.block_lt_of_cell? w _ hx495_1)).trans hx495_1; replace hx495_2 := (HB.out.cell (World.block_lt_of_cell? w _ hx495_2)).trans hx495_2; replace hx495_3 := (HB.out.cell (World.block_lt_of_cell? w _ hx495_3)).trans hx495_3; replace hx495_4 := (HB.out.cell (World.block_lt_of_cell? w _ hx495_4)).trans hx495_4; replace p495 := eq_true p495; replace q495 := eq_true q495; have p496 : 0 ≤ ((ji38) : Int) := of_decide_eq_true (by first | (with_reducible assumption) | assumption); have q496 : (ji38) < (t484.length : Int) := of_decide_eq_true (by first | (with_reducible assumption) | assumption); obtain ⟨ad496, e496, hx496_0⟩ := Kd.at_int (Kd.R_reads' HO_7.out).2.2 (ji38) p496 q496; obtain rfl : ad491 = ad496 := (by injection e496); replace p496 := eq_true p496; replace q496 := eq_true q496)))
            go_roundg k2
            case measure => have := HJ10.out; have := HK2.out; omega
            case rel => exact ⟨(wrap64 (x9_2 + 1)), (by first | rfl | (simp; done) | (simp [*]; done)), H', ⟨by have := HJ10.out; have := HK2.out; omega⟩, ⟨by (with_reducible repeat (first | apply Kd.R_alloc | apply Kd.R_drewN | apply Kd.R_drew)); exact HO_7.out⟩, ⟨by repeat (first | (with_reducible first | exact HB.out | apply below_alloc | apply pw_below_drewN | apply below_drew1) | exact HB.out)⟩⟩
         ·replace c33 := Bool.eq_false_iff.mpr c33
          subst c33
          have H1 : (none) = some r := by rw [if_neg (show ¬ (false = true) by decide)] at H; exact H
          clear H
          have H := H1
          clear H1
          exact absurd H (by simp)
        ·rw [if_neg c29] at H
         have c29b0 : decide (x9_2 < (t484.length : Int)) = false := decide_eq_false c29
         clear c29
         obtain rfl := Option.some.inj H
         obtain ⟨Ao44, co44, eo44⟩ := Kd.R_slice HO_7.out
         subst eo44
         go_wp2
         repeat (go_quiet (fail); try go_wp2)
         go_ret
         exact ⟨by first | rfl | (simp [errW_none, errW_some] <;> rfl) | (simp only [← hji7]; first | rfl | (simp [errW_none, errW_some] <;> rfl)) | (simp [*, errW_none, errW_some] <;> rfl), by repeat (first | (with_reducible first | exact HB.out | apply below_alloc | apply pw_below_drewN | apply below_drew1) | exact HB.out)⟩
 ·replace c5 := Bool.eq_false_iff.mpr c5
  subst c5
  have H1 : (some t481) = some r := by rw [if_neg (show ¬ (false = true) by decide)] at H; exact H
  clear H
  have H := H1
  clear H1
  obtain rfl := Option.some.inj H
  go_enter Try.func5, Try.ntmps5
  go_wp2_with (first | (go_at_call 9; (with_reducible refine (formelaw10_head.calls k  t481 _ A3.out).mono ?_); rintro e w45 ⟨rfl, hb⟩; have n0_ := Aside0.mk (below_step (by repeat (first | (with_reducible first | exact HB.out | apply below_alloc | apply pw_below_drewN | apply below_drew1) | exact HB.out)) hb); clear HB; have HB := n0_; clear n0_; (try clear hb); (try clear hb2); (try clear hk); (try clear hi)) | (go_at_call 27; (with_reducible refine (formelaw10_usable.calls k _ _ l0 false _ ?side1 ?side2 A4.out).mono ?_); (case side1 => repeat (first | exact (Kd.C_below HR0.out HB.out) | (with_reducible refine Kd.C_alloc ?_ _) | (with_reducible refine Kd.C_drewN ?_ _) | (with_reducible refine Kd.C_drew ?_))); (case side2 => exact HC0.out); rintro e w46 ⟨rfl, hb⟩; have n0_ := Aside0.mk (below_step (by repeat (first | (with_reducible first | exact HB.out | apply below_alloc | apply pw_below_drewN | apply below_drew1) | exact HB.out)) hb); clear HB; have HB := n0_; clear n0_; (try clear hb); (try clear hb2); (try clear hk); (try clear hi)))
  repeat (go_quiet (first | (go_at_call 9; (with_reducible refine (formelaw10_head.calls k  t481 _ A3.out).mono ?_); rintro e w45 ⟨rfl, hb⟩; have n0_ := Aside0.mk (below_step (by repeat (first | (with_reducible first | exact HB.out | apply below_alloc | apply pw_below_drewN | apply below_drew1) | exact HB.out)) hb); clear HB; have HB := n0_; clear n0_; (try clear hb); (try clear hb2); (try clear hk); (try clear hi)) | (go_at_call 27; (with_reducible refine (formelaw10_usable.calls k _ _ l0 false _ ?side1 ?side2 A4.out).mono ?_); (case side1 => repeat (first | exact (Kd.C_below HR0.out HB.out) | (with_reducible refine Kd.C_alloc ?_ _) | (with_reducible refine Kd.C_drewN ?_ _) | (with_reducible refine Kd.C_drew ?_))); (case side2 => exact HC0.out); rintro e w46 ⟨rfl, hb⟩; have n0_ := Aside0.mk (below_step (by repeat (first | (with_reducible first | exact HB.out | apply below_alloc | apply pw_below_drewN | apply below_drew1) | exact HB.out)) hb); clear HB; have HB := n0_; clear n0_; (try clear hb); (try clear hb2); (try clear hk); (try clear hi))); try go_wp2_with (first | (go_at_call 9; (with_reducible refine (formelaw10_head.calls k  t481 _ A3.out).mono ?_); rintro e w45 ⟨rfl, hb⟩; have n0_ := Aside0.mk (below_step (by repeat (first | (with_reducible first | exact HB.out | apply below_alloc | apply pw_below_drewN | apply below_drew1) | exact HB.out)) hb); clear HB; have HB := n0_; clear n0_; (try clear hb); (try clear hb2); (try clear hk); (try clear hi)) | (go_at_call 27; (with_reducible refine (formelaw10_usable.calls k _ _ l0 false _ ?side1 ?side2 A4.out).mono ?_); (case side1 => repeat (first | exact (Kd.C_below HR0.out HB.out) | (with_reducible refine Kd.C_alloc ?_ _) | (with_reducible refine Kd.C_drewN ?_ _) | (with_reducible refine Kd.C_drew ?_))); (case side2 => exact HC0.out); rintro e w46 ⟨rfl, hb⟩; have n0_ := Aside0.mk (below_step (by repeat (first | (with_reducible first | exact HB.out | apply below_alloc | apply pw_below_drewN | apply below_drew1) | exact HB.out)) hb); clear HB; have HB := n0_; clear n0_; (try clear hb); (try clear hb2); (try clear hk); (try clear hi))))
  go_ret
  exact ⟨by first | rfl | (simp [errW_none, errW_some] <;> rfl) | (simp [*, errW_none, errW_some] <;> rfl), by repeat (first | (with_reducible first | exact HB.out | apply below_alloc | apply pw_below_drewN | apply below_drew1) | exact HB.out)⟩
end Go.Proofs.Ytpafhhgoldenoaa.P
end
section
namespace Go.Proofs.Ytpafhhgoldenoaa.P
open Go.RowKit Go.Proofs.YtpafhhgoldenoaaW.PrintWords Go.Proofs.YtpafhhgoldenoaaW.PrintLast Go.Proofs.YtpafhhgoldenoaaW.PrintMore
open Go.Proofs.Ytpafhhgoldenoaa.XM
set_option linter.unusedVariables false
set_option linter.unusedSimpArgs false
variable {l : List S24} {ds : Nat → Int} {D : Places}
theorem up_of (T : TreeAt l ds) {j k : Nat} (hj : j < l.length) (hk : k < j) (e : (nd l k).f0 = (nd l j).f1) : upIdx l j = some k :=
 upIdx_some hk e (fun m hm c => by
  have := T.inj (j := m) (k := k) (by omega) (by omega) (c.trans e.symm)
  omega)
theorem pathUp_more (T : TreeAt l ds) : ∀ (j n : Nat), j < l.length → j ≤ n → pathUp l n j = pathUp l j j := by
 intro j
 induction j using Nat.strongRecOn with
 | ind j ih =>
  intro n hj hn
  by_cases h0 : j = 0
  ·subst h0
   cases n with
   | zero => rfl
   | succ n => simp only [pathUp]; rw [if_pos (show (rd_T24 l ((0 : Nat) : Int)).f1 = 0 from T.root.1)]
  ·obtain ⟨k, hk, e, _, _⟩ := T.par j hj (by omega)
   have hu := up_of T hj hk e
   have hp : ¬ ((rd_T24 l (j : Int)).f1 = 0) := by
    have := T.id (j := k) (by omega)
    intro c
    have e' : (nd l k).f0 = (rd_T24 l (j : Int)).f1 := e
    omega
   obtain ⟨n, rfl⟩ : ∃ q, n = q + 1 := ⟨n - 1, by omega⟩
   obtain ⟨j', rfl⟩ : ∃ q, j = q + 1 := ⟨j - 1, by omega⟩
   simp only [pathUp]
   rw [if_neg hp, hu]
   simp only
   rw [ih k (by omega) n (by omega) (by omega), ih k (by omega) j' (by omega) (by omega), if_neg hp]
theorem path_root (T : TreeAt l ds) : pathP l 0 = [(nd l 0).f0] := rfl
theorem path_step (T : TreeAt l ds) {j : Nat} (hj : j < l.length) (h0 : 0 < j) : ∃ k, k < j ∧ (nd l k).f0 = (nd l j).f1 ∧ ds j = ds k + 1 ∧ pathP l j = pathP l k ++ [(nd l j).f0] := by
 obtain ⟨k, hk, e, _, e2⟩ := T.par j hj h0
 refine ⟨k, hk, e, e2, ?_⟩
 have hu := up_of T hj hk e
 have hp : ¬ ((rd_T24 l (j : Int)).f1 = 0) := by
  have := T.id (j := k) (by omega)
  intro c
  have e' : (nd l k).f0 = (rd_T24 l (j : Int)).f1 := e
  omega
 unfold pathP
 obtain ⟨j', rfl⟩ : ∃ q, j = q + 1 := ⟨j - 1, by omega⟩
 simp only [pathUp]
 rw [if_neg hp, hu]
 simp only
 rw [pathUp_more T k j' (by omega) (by omega), List.reverse_cons]
theorem path_all (T : TreeAt l ds) : ∀ j, j < l.length → ((pathP l j).length : Int) = ds j ∧ rd (pathP l j) 0 = (nd l 0).f0 ∧ rd (pathP l j) (((pathP l j).length - 1 : Nat) : Int) = (nd l j).f0 ∧
  ∀ q : Nat, q < (pathP l j).length → ∃ m, m < l.length ∧ rd (pathP l j) (q : Int) = (nd l m).f0 ∧ (0 < q → (nd l m).f1 = rd (pathP l j) ((q - 1 : Nat) : Int)) := by
 intro j
 induction j using Nat.strongRecOn with
 | ind j ih =>
  intro hj
  by_cases h0 : j = 0
  ·subst h0
   rw [path_root T]
   refine ⟨by rw [T.d0]; rfl, rfl, rfl, fun q hq => ⟨0, hj, ?_, fun h => by simp at hq; omega⟩⟩
   obtain rfl : q = 0 := by simp at hq; omega
   rfl
  ·obtain ⟨k, hk, e, e2, hp⟩ := path_step T hj (by omega)
   obtain ⟨i1, i2, i3, i4⟩ := ih k hk (by omega)
   have hd := T.dpos k (by omega)
   have hl0 : 0 < (pathP l k).length := by omega
   rw [hp]
   refine ⟨by simp; omega, ?_, ?_, fun q hq => ?_⟩
   ·exact (rd_snoc _ _ 0 hl0).trans i2
   ·simpa using rd_snoc_last (pathP l k) (nd l j).f0
   ·by_cases c : q < (pathP l k).length
    ·obtain ⟨m, m1, m2, m3⟩ := i4 q c
     refine ⟨m, m1, by rw [rd_snoc _ _ q c, m2], fun h => ?_⟩
     rw [rd_snoc _ _ (q - 1) (by omega)]
     exact m3 h
    ·obtain rfl : q = (pathP l k).length := by simp at hq; omega
     refine ⟨j, hj, rd_snoc_last _ _, fun h => ?_⟩
     rw [rd_snoc _ _ ((pathP l k).length - 1) (by omega), i3, e]
theorem find_at' (hD : placesP l = some D) (T : TreeAt l ds) (P : PAt l ds l.length D) {j : Nat} (hj : j < l.length) : findP l (nd l j).f0 = ((j : Int), true, 0) := by
 have hid := (idB_iff _).2 (T.id hj)
 unfold findP
 rw [hD]
 simp only [hid, if_true, P.1 j hj]
 simp
theorem get_at' (hD : placesP l = some D) (T : TreeAt l ds) (P : PAt l ds l.length D) {j : Nat} (hj : j < l.length) : tree_get.f l (nd l j).f0 = some ((j : Int), 0) := by
 unfold tree_get.f tree_Find.f
 rw [find_at' hD T P hj]
 simp
theorem Path_at (hD : placesP l = some D) (T : TreeAt l ds) (P : PAt l ds l.length D) {j : Nat} (hj : j < l.length) : tree_Path.f l (nd l j).f0 = some (pathP l j, 0) := by
 have := T.len
 unfold tree_Path.f
 rw [get_at' hD T P hj]
 simp only [Option.bind_some, if_true]
 unfold tree_path.f
 rw [if_pos (by omega)]
 simp
theorem which_of (T : TreeAt l ds) (a : Int) (ha : 0 ≤ a ∧ a ≤ 255) : ∃ i : Nat, i < l.length ∧ Int.tmod (wrap64 a) (l.length : Int) = (i : Int) := by
 have hpos := T.pos
 have hw : wrap64 a = a := by unfold wrap64; omega
 rw [hw, Int.tmod_eq_emod_of_nonneg ha.1]
 have h1 := Int.emod_nonneg a (show (l.length : Int) ≠ 0 by omega)
 have h2 := Int.emod_lt_of_pos a (show (0 : Int) < l.length by omega)
 exact ⟨(a % (l.length : Int)).toNat, by omega, by omega⟩
end Go.Proofs.Ytpafhhgoldenoaa.P
end
section
namespace Go.Proofs.Ytpafhhgoldenoaa.P
open Go.RowKit Go.Proofs.YtpafhhgoldenoaaW.PrintWords Go.Proofs.YtpafhhgoldenoaaW.PrintLast Go.Proofs.YtpafhhgoldenoaaW.PrintMore
open Go.Proofs.Ytpafhhgoldenoaa.XM
set_option linter.unusedVariables false
set_option linter.unusedSimpArgs false
variable {l : List S24} {ds : Nat → Int} {D : Places}
def inB (l : List S24) (id : Int) (j : Nat) : Bool := decide (id ∈ pathP l j)
def selP (l : List S24) (p : Nat → Bool) (i : Nat) : List S24 := ((List.range i).filter p).map (nd l)
theorem selP_succ (l : List S24) (p : Nat → Bool) (i : Nat) : selP l p (i + 1) = if p i = true then selP l p i ++ [nd l i] else selP l p i := by
 unfold selP
 rw [List.range_succ, List.filter_append]
 by_cases h : p i = true <;> simp [h]
theorem in_own (T : TreeAt l ds) {j : Nat} (hj : j < l.length) : inB l (nd l j).f0 j = true := by
 obtain ⟨p1, p2, p3, p4⟩ := path_all T j hj
 have := (T.dpos j hj).1
 unfold inB
 rw [decide_eq_true_eq, ← p3]
 have hlt : (pathP l j).length - 1 < (pathP l j).length := by omega
 simp [rd, hlt]
theorem in_step (T : TreeAt l ds) {j k : Nat} (hj : j < l.length) (hk : k < j) (e : (nd l k).f0 = (nd l j).f1) (id : Int) : inB l id j = (inB l id k || decide (id = (nd l j).f0)) := by
 obtain ⟨k', hk', e', _, hp⟩ := path_step T hj (by omega)
 obtain rfl := T.inj (j := k') (k := k) (by omega) (by omega) (e'.trans e.symm)
 unfold inB
 rw [hp]
 rw [Bool.eq_iff_iff]
 simp
theorem in_root (T : TreeAt l ds) (id : Int) : inB l id 0 = decide (id = (nd l 0).f0) := by
 unfold inB
 rw [path_root T]
 rw [Bool.eq_iff_iff]
 simp
def HasInv (l : List S24) (id : Int) (i : Nat) (D : IdSet) : Prop := ∀ x, hasB D x = true ↔ (x = id ∨ ∃ m, m < i ∧ inB l id m = true ∧ x = (nd l m).f0)
theorem hasB_put (D : IdSet) (x y : Int) : hasB (mput D x true) y = (decide (x = y) || hasB D y) := by
 unfold hasB
 rw [mlook_mput]
 by_cases h : x = y <;> simp [h]
theorem spGo_sel (T : TreeAt l ds) (id : Int) (hid : 1 ≤ id) : ∀ (d i : Nat) (D : IdSet), i ≤ l.length → l.length - i ≤ d → HasInv l id i D →
  spGo (l.drop i) D (selP l (fun j => !inB l id j) i) (selP l (inB l id) i) = (selP l (fun j => !inB l id j) l.length, selP l (inB l id) l.length) := by
 intro d
 induction d with
 | zero =>
  intro i D hi hd hD
  obtain rfl : i = l.length := by omega
  rw [List.drop_length]
  rfl
 | succ d ih =>
  intro i D hi hd hD
  by_cases hlt : i < l.length
  ·rw [drop_nd l i hlt]
   have key : (hasB D (nd l i).f0 || hasB D (nd l i).f1) = inB l id i := by
    have a0 : hasB D (nd l i).f0 = true ↔ (nd l i).f0 = id := by
     rw [hD]
     constructor
     ·rintro (h | ⟨m, hm, _, h⟩)
      ·exact h
      ·exact absurd h.symm (T.ids m i hm hlt)
     ·exact .inl
    by_cases h0 : i = 0
    ·subst h0
     have a1 : hasB D (nd l 0).f1 = false := by
      rw [Bool.eq_false_iff, Ne, hD, T.root.1]
      rintro (h | ⟨m, hm, _⟩) <;> omega
     rw [a1, Bool.or_false, in_root T, Bool.eq_iff_iff, a0, decide_eq_true_eq]
     exact eq_comm
    ·obtain ⟨k, hk, e, _, _⟩ := T.par i hlt (by omega)
     have a1 : hasB D (nd l i).f1 = true ↔ inB l id k = true := by
      rw [hD, ← e]
      constructor
      ·rintro (h | ⟨m, hm, hm2, h⟩)
       ·rw [← h]; exact in_own T (by omega)
       ·obtain rfl := T.inj (j := k) (k := m) (by omega) (by omega) h
        exact hm2
      ·exact fun h => .inr ⟨k, hk, h, rfl⟩
     rw [in_step T hlt hk e id, Bool.eq_iff_iff, Bool.or_eq_true, Bool.or_eq_true, a0, a1, decide_eq_true_eq]
     constructor
     ·rintro (h | h)
      ·exact .inr h.symm
      ·exact .inl h
     ·rintro (h | h)
      ·exact .inr h
      ·exact .inl h.symm
   simp only [spGo]
   rw [key]
   by_cases hb : inB l id i = true
   ·rw [if_pos hb]
    have e1 : selP l (fun j => !inB l id j) (i + 1) = selP l (fun j => !inB l id j) i := by rw [selP_succ, if_neg (by simp [hb])]
    have e2 : selP l (inB l id) (i + 1) = selP l (inB l id) i ++ [nd l i] := by rw [selP_succ, if_pos hb]
    rw [← e1, ← e2]
    refine ih (i + 1) _ hlt (by omega) (fun x => ?_)
    rw [hasB_put, Bool.or_eq_true, decide_eq_true_eq, hD]
    constructor
    ·rintro (h | h | ⟨m, hm, hm2, h⟩)
     ·exact .inr ⟨i, by omega, hb, h.symm⟩
     ·exact .inl h
     ·exact .inr ⟨m, by omega, hm2, h⟩
    ·rintro (h | ⟨m, hm, hm2, h⟩)
     ·exact .inr (.inl h)
     ·by_cases e : m = i
      ·subst e; exact .inl h.symm
      ·exact .inr (.inr ⟨m, by omega, hm2, h⟩)
   ·rw [if_neg hb]
    have e1 : selP l (fun j => !inB l id j) (i + 1) = selP l (fun j => !inB l id j) i ++ [nd l i] := by rw [selP_succ, if_pos (by simp [hb])]
    have e2 : selP l (inB l id) (i + 1) = selP l (inB l id) i := by rw [selP_succ, if_neg hb]
    rw [← e1, ← e2]
    refine ih (i + 1) _ hlt (by omega) (fun x => ?_)
    rw [hD]
    constructor
    ·rintro (h | ⟨m, hm, hm2, h⟩)
     ·exact .inl h
     ·exact .inr ⟨m, by omega, hm2, h⟩
    ·rintro (h | ⟨m, hm, hm2, h⟩)
     ·exact .inl h
     ·by_cases e : m = i
      ·subst e; exact absurd hm2 hb
      ·exact .inr ⟨m, by omega, hm2, h⟩
  ·obtain rfl : i = l.length := by omega
   rw [List.drop_length]
   rfl
theorem split_sel (T : TreeAt l ds) (id : Int) (hid : 1 ≤ id) : splitP l id = (selP l (fun j => !inB l id j) l.length, selP l (inB l id) l.length) := by
 have := spGo_sel T id hid l.length 0 [(id, true)] (by omega) (by omega) (fun x => by
  have e : hasB [(id, true)] x = decide (id = x) := by
   unfold hasB
   rw [mlook_cons, mlook_nil]
   by_cases h : id = x <;> simp [h]
  rw [e, decide_eq_true_eq]
  constructor
  ·exact fun h => .inl h.symm
  ·rintro (h | ⟨m, hm, _⟩)
   ·exact h.symm
   ·omega)
 simpa [splitP, selP] using this
theorem TreeAt.sub (T : TreeAt l ds) (p : Nat → Bool) (h0 : p 0 = true) (hc : ∀ j k, j < l.length → k < j → (nd l k).f0 = (nd l j).f1 → p j = true → p k = true) :
  ∃ ds', TreeAt (selP l p l.length) ds' := by
 let I := (List.range l.length).filter p
 have hsort : I.Pairwise (· < ·) := List.Pairwise.filter _ List.pairwise_lt_range
 have hmem : ∀ j, j ∈ I ↔ j < l.length ∧ p j = true := fun j => by simp [I]
 have hget : ∀ (q r : Nat) (hq : q < I.length) (hr : r < I.length), q < r → I[q] < I[r] := fun q r hq hr h => List.pairwise_iff_getElem.1 hsort q r hq hr h
 have hlen : (selP l p l.length).length = I.length := by simp [selP, I]
 have hnd : ∀ q (hq : q < I.length), nd (selP l p l.length) q = nd l I[q] := fun q hq => by
  have : q < (selP l p l.length).length := by omega
  have e : nd (selP l p l.length) q = (selP l p l.length)[q] := by simp [rd_T24, this]
  rw [e]
  simp [selP, I]
 have hI : ∀ q (hq : q < I.length), I[q] < l.length ∧ p I[q] = true := fun q hq => (hmem _).1 (List.getElem_mem hq)
 have hpos : 0 < I.length := List.length_pos_of_mem ((hmem 0).2 ⟨T.pos, h0⟩)
 have hfirst : I[0] = 0 := by
  obtain ⟨q, hq, e⟩ := List.getElem_of_mem ((hmem 0).2 ⟨T.pos, h0⟩)
  by_cases c : q = 0
  ·subst c; exact e
  ·have := hget 0 q hpos hq (by omega)
   omega
 have hle : I.length ≤ l.length := by
  have := List.length_filter_le p (List.range l.length)
  simpa [I] using this
 refine ⟨fun q => ds (I.getD q 0), ⟨by omega, by have := T.len; omega, ?_, ?_, ?_, ?_, ?_, ?_⟩⟩
 ·intro j hj
  rw [hnd j (by omega)]
  exact T.form _ (hI j (by omega)).1
 ·intro j k hjk hk
  rw [hnd j (by omega), hnd k (by omega)]
  exact T.ids _ _ (hget j k (by omega) (by omega) hjk) (hI k (by omega)).1
 ·rw [hnd 0 hpos, hfirst]
  exact T.root
 ·have : I.getD 0 0 = 0 := by rw [List.getD_eq_getElem?_getD, List.getElem?_eq_getElem hpos]; exact hfirst
  simp only [this]
  exact T.d0
 ·intro j hj hj0
  have hj' : j < I.length := by omega
  obtain ⟨a1, a2⟩ := hI j hj'
  have hlt := hget 0 j hpos hj' hj0
  obtain ⟨k, hk, e1, e2, e3⟩ := T.par I[j] a1 (by omega)
  have pk := hc I[j] k a1 hk e1 a2
  obtain ⟨r, hr, er⟩ := List.getElem_of_mem ((hmem k).2 ⟨by omega, pk⟩)
  have hrj : r < j := by
   rcases Nat.lt_trichotomy r j with c | c | c
   ·exact c
   ·subst c; omega
   ·have := hget j r hj' hr c; omega
  refine ⟨r, hrj, ?_, ?_, ?_⟩
  ·rw [hnd r hr, hnd j hj', er]; exact e1
  ·rw [hnd r hr, hnd j hj', er]; exact e2
  ·have g1 : I.getD j 0 = I[j] := by rw [List.getD_eq_getElem?_getD, List.getElem?_eq_getElem hj']; rfl
   have g2 : I.getD r 0 = k := by rw [List.getD_eq_getElem?_getD, List.getElem?_eq_getElem hr]; exact er
   simp only [g1, g2]
   exact e3
 ·intro j hj
  have hj' : j < I.length := by omega
  have g1 : I.getD j 0 = I[j] := by rw [List.getD_eq_getElem?_getD, List.getElem?_eq_getElem hj']; rfl
  simp only [g1]
  exact T.le30 _ (hI j hj').1
theorem rest_tree (T : TreeAt l ds) {i : Nat} (hi : i < l.length) (h0 : 0 < i) : ∃ ds', TreeAt (selP l (fun j => !inB l (nd l i).f0 j) l.length) ds' := by
 refine T.sub _ ?_ ?_
 ·simp only [Bool.not_eq_true', in_root T, decide_eq_false_iff_not]
  intro c
  exact T.ids 0 i h0 hi c.symm
 ·intro j k hj hk e h
  simp only [Bool.not_eq_true', in_step T hj hk e, Bool.or_eq_false_iff] at h ⊢
  exact h.1
theorem rest_less (T : TreeAt l ds) {i : Nat} (hi : i < l.length) : (selP l (fun j => !inB l (nd l i).f0 j) l.length).length < l.length := by
 have h : ((List.range l.length).filter (fun j => !inB l (nd l i).f0 j)).length < (List.range l.length).length := by
  rw [List.length_filter_lt_length_iff_exists]
  exact ⟨i, by simpa using hi, by simp [in_own T hi]⟩
 simpa [selP] using h
end Go.Proofs.Ytpafhhgoldenoaa.P
end
section
namespace Go.Proofs.Ytpafhhgoldenoaa.P
open Go.RowKit Go.Proofs.YtpafhhgoldenoaaW.PrintWords Go.Proofs.YtpafhhgoldenoaaW.PrintLast Go.Proofs.YtpafhhgoldenoaaW.PrintMore
attribute [local go_sem] max2_int min2_int max_two min_two max_three min_three max_four min_four
set_option linter.unusedVariables false
set_option linter.unusedSimpArgs false
def formeref10_Has.l0 : Nat → List Int → Int → Int → Option (Bool)
 | 0, _, _, _ => none
 | k + 1, x0, x1, x5 => if x5 < (x0.length : Int) then (if 0 ≤ x5 then (if (rd x0 x5) = x1 then (some true) else (formeref10_Has.l0 k x0 x1 (wrap64 (x5 + 1)))) else (none)) else (some false)
def formeref10_Has.f (k : Nat) (l0 : List Int) (a1 : Int) : Option (Bool) := formeref10_Has.l0 k l0 a1 0
theorem formeref10_Has.mono_l : ∀ k, (∀ y0 y1 y2, LeO (formeref10_Has.l0 k y0 y1 y2) (formeref10_Has.l0 (k + 1) y0 y1 y2))
 | 0 => fun _ _ _ r h => by simp [formeref10_Has.l0] at h
 | k + 1 => by
  have ih0 := formeref10_Has.mono_l k
  ·intro y0 y1 y2
   unfold formeref10_Has.l0
   repeat' first
   | (with_reducible exact ih0 _ _ _)
   | (with_reducible exact LeO.refl _)
   | (with_reducible exact LeO.none _)
   | (with_reducible refine LeO.ite ?_ ?_)
   | (with_reducible refine LeO.bind ?_ (fun _ => ?_))
   | exact ih0 _ _ _
   | exact LeO.none _
   | refine LeO.ite ?_ ?_
   | refine LeO.bind ?_ (fun _ => ?_)
theorem formeref10_Has.mono : ∀ a0 a1 k, LeO (formeref10_Has.f k a0 a1) (formeref10_Has.f (k + 1) a0 a1) := by
 intro a0 a1 k
 have ih0 := formeref10_Has.mono_l k
 unfold formeref10_Has.f
 repeat' first
   | (with_reducible exact ih0 _ _ _)
   | (with_reducible exact LeO.refl _)
   | (with_reducible exact LeO.none _)
   | (with_reducible refine LeO.ite ?_ ?_)
   | (with_reducible refine LeO.bind ?_ (fun _ => ?_))
   | exact ih0 _ _ _
   | exact LeO.none _
   | refine LeO.ite ?_ ?_
   | refine LeO.bind ?_ (fun _ => ?_)
set_option maxHeartbeats 8000000 in
set_option maxRecDepth 100000 in
theorem formeref10_Has.calls (k : Nat) (A0 : Option Addr) (c0 : Nat) (l0 : List Int) (a1 : Int) (r : Bool) (w : World) (hr0 : Kd.C (Kd.int .i64) w A0 l0.length l0) (hc0 : l0.length ≤ c0) (h : formeref10_Has.f k l0 a1 = some r) :
  Calls Try.prog 29 #[.slice A0 l0.length c0, .int .i64 a1] w fun e w' => e = .returned (.bool r) ∧ Drawn0 w w' := by
 have HR0 := Aside0.mk hr0
 have HC0 := Aside0.mk hc0
 clear hr0 hc0
 have H : (formeref10_Has.l0 k l0 a1 0) = some r := h
 clear h
 have H' := Aside0.mk H
 clear H
 go_enter Try.func29, Try.ntmps29
 go_wp2
 go_loopg [5] k (fun kq v5 w' => ∃ (x5_1 : Int), v5 = .int .i64 x5_1 ∧ Aside0 (formeref10_Has.l0 kq l0 a1 x5_1 = some r) ∧ Aside0 (kq ≤ k) ∧ Drawn0 w w')
 case atStart => exact ⟨(0), (by first | rfl | (simp; done) | (simp [*]; done)), H', ⟨Nat.le_refl _⟩, by repeat (first | exact Drawn0.refl _ | apply Drawn0.step)⟩
 case round =>
  clear H'
  try clear c2
  try clear p2
  obtain ⟨x5_1, rfl, HA, HK1, ⟨m1, rfl⟩⟩ := hrel
  cases gk with
  | zero => exact absurd HA.out (by simp [formeref10_Has.l0])
  | succ k1 =>
   have H := HA.out
   clear HA
   simp only [formeref10_Has.l0] at H
   by_cases c3 : x5_1 < (l0.length : Int)
   ·rw [if_pos c3] at H
    have c3b0 : decide (x5_1 < (l0.length : Int)) = true := decide_eq_true c3
    clear c3
    by_cases c4 : 0 ≤ x5_1
    rotate_left
    ·rw [if_neg c4] at H; exact absurd H (by simp)
    rw [if_pos c4] at H
    have c4b0 : decide (0 ≤ x5_1) = true := decide_eq_true c4
    clear c4
    by_cases c5 : (rd l0 x5_1) = a1
    ·rw [if_pos c5] at H
     have c5b0 : ((rd l0 x5_1) == a1) = true := beq_iff_eq.mpr c5
     have c5b1 : ((rd l0 x5_1) != a1) = false := bne_eq_false_iff_eq.mpr c5
     clear c5
     obtain rfl := Option.some.inj H
     have p285 : 0 ≤ (x5_1 : Int) := of_decide_eq_true (by first | (with_reducible assumption) | assumption)
     have q285 : x5_1 < (l0.length : Int) := of_decide_eq_true (by first | (with_reducible assumption) | assumption)
     obtain ⟨ad285, e285, hx285_0⟩ := Kd.at_int HR0.out x5_1 p285 q285
     cases e285
     replace p285 := eq_true p285
     replace q285 := eq_true q285
     go_wp2
     go_ret
     exact ⟨by first | rfl | (simp; done) | (simp [*]; done), by repeat (first | exact Drawn0.refl _ | apply Drawn0.step)⟩
    ·rw [if_neg c5] at H
     have c5b0 : ((rd l0 x5_1) == a1) = false := beq_eq_false_iff_ne.mpr c5
     have c5b1 : ((rd l0 x5_1) != a1) = true := bne_iff_ne.mpr c5
     have H' := Aside0.mk H
     clear H
     have p285 : 0 ≤ (x5_1 : Int) := of_decide_eq_true (by first | (with_reducible assumption) | assumption)
     have q285 : x5_1 < (l0.length : Int) := of_decide_eq_true (by first | (with_reducible assumption) | assumption)
     obtain ⟨ad285, e285, hx285_0⟩ := Kd.at_int HR0.out x5_1 p285 q285
     cases e285
     replace p285 := eq_true p285
     replace q285 := eq_true q285
     go_wp2
     go_roundg k1
     case measure => have := HK1.out; omega
     case rel => exact ⟨(wrap64 (x5_1 + 1)), (by first | rfl | (simp; done) | (simp [*]; done)), H', ⟨by have := HK1.out; omega⟩, by repeat (first | exact Drawn0.refl _ | apply Drawn0.step)⟩
   ·rw [if_neg c3] at H
    have c3b0 : decide (x5_1 < (l0.length : Int)) = false := decide_eq_false c3
    clear c3
    obtain rfl := Option.some.inj H
    go_wp2
    go_ret
    exact ⟨by first | rfl | (simp; done) | (simp [*]; done), by repeat (first | exact Drawn0.refl _ | apply Drawn0.step)⟩
end Go.Proofs.Ytpafhhgoldenoaa.P
end
section
namespace Go.Proofs.Ytpafhhgoldenoaa.P
open Go.RowKit Go.Proofs.YtpafhhgoldenoaaW.PrintWords Go.Proofs.YtpafhhgoldenoaaW.PrintLast Go.Proofs.YtpafhhgoldenoaaW.PrintMore
attribute [local go_sem] max2_int min2_int max_two min_two max_three min_three max_four min_four
set_option linter.unusedVariables false
set_option linter.unusedSimpArgs false
def formeref10_Children.l0 : Nat → List (S24) → Int → List Int → Int → Option (List Int)
 | 0, _, _, _, _ => none
 | k + 1, x0, x1, x5, x6 => if x6 < (x0.length : Int) then (if 0 ≤ x6 then (if ((rd_T24 x0 x6).f1) = x1 then (if x5.length < 17592186044416 then (formeref10_Children.l0 k x0 x1 (x5 ++ [(rd_T24 x0 x6).f0]) (wrap64 (x6 + 1))) else (none)) else (formeref10_Children.l0 k x0 x1 x5 (wrap64 (x6 + 1)))) else (none)) else (some x5)
def formeref10_Children.f (k : Nat) (l0 : List (S24)) (a1 : Int) : Option (List Int) := formeref10_Children.l0 k l0 a1 ([] : List Int) 0
theorem formeref10_Children.mono_l : ∀ k, (∀ y0 y1 y2 y3, LeO (formeref10_Children.l0 k y0 y1 y2 y3) (formeref10_Children.l0 (k + 1) y0 y1 y2 y3))
 | 0 => fun _ _ _ _ r h => by simp [formeref10_Children.l0] at h
 | k + 1 => by
  have ih0 := formeref10_Children.mono_l k
  ·intro y0 y1 y2 y3
   unfold formeref10_Children.l0
   repeat' first
   | (with_reducible exact ih0 _ _ _ _)
   | (with_reducible exact LeO.refl _)
   | (with_reducible exact LeO.none _)
   | (with_reducible refine LeO.ite ?_ ?_)
   | (with_reducible refine LeO.bind ?_ (fun _ => ?_))
   | exact ih0 _ _ _ _
   | exact LeO.none _
   | refine LeO.ite ?_ ?_
   | refine LeO.bind ?_ (fun _ => ?_)
theorem formeref10_Children.mono : ∀ a0 a1 k, LeO (formeref10_Children.f k a0 a1) (formeref10_Children.f (k + 1) a0 a1) := by
 intro a0 a1 k
 have ih0 := formeref10_Children.mono_l k
 unfold formeref10_Children.f
 repeat' first
   | (with_reducible exact ih0 _ _ _ _)
   | (with_reducible exact LeO.refl _)
   | (with_reducible exact LeO.none _)
   | (with_reducible refine LeO.ite ?_ ?_)
   | (with_reducible refine LeO.bind ?_ (fun _ => ?_))
   | exact ih0 _ _ _ _
   | exact LeO.none _
   | refine LeO.ite ?_ ?_
   | refine LeO.bind ?_ (fun _ => ?_)
set_option maxHeartbeats 8000000 in
set_option maxRecDepth 100000 in
theorem formeref10_Children.calls (k : Nat) (A0 : Option Addr) (c0 : Nat) (l0 : List (S24)) (a1 : Int) (r : List Int) (w : World) (hr0 : Kd.C k24 w A0 l0.length l0) (hc0 : l0.length ≤ c0) (h : formeref10_Children.f k l0 a1 = some r) :
  Calls Try.prog 39 #[.slice A0 l0.length c0, .int .i64 a1] w fun e w' => ∃ v0_ : Value, e = .returned (v0_) ∧ Kd.R (Kd.int .i64) 3 w' w.heap.size (fun _ => True) v0_ r ∧ Below w.heap.size w w' := by
 have HR0 := Aside0.mk hr0
 have HC0 := Aside0.mk hc0
 clear hr0 hc0
 have HB := Aside0.mk (Below.refl w.heap.size w)
 have H : (formeref10_Children.l0 k l0 a1 ([] : List Int) 0) = some r := h
 clear h
 have H' := Aside0.mk H
 clear H
 go_enter Try.func39, Try.ntmps39
 go_wp2
 go_loopg [5, 6] k (fun kq v5 v6 w' => ∃ (x5_1 : List Int) (x6_1 : Int), v6 = .int .i64 x6_1 ∧ Aside0 (formeref10_Children.l0 kq l0 a1 x5_1 x6_1 = some r) ∧ Aside0 (kq ≤ k) ∧ Aside0 (Kd.R (Kd.int .i64) 3 w' w.heap.size (fun _ => True) v5 x5_1) ∧ Aside0 (Below w.heap.size w w'))
 case atStart => exact ⟨(([] : List Int)), (0), (by first | rfl | (simp; done) | (simp [*]; done)), H', ⟨Nat.le_refl _⟩, ⟨by first | exact Kd.R_nil _ _ _ _ _ | exact Kd.N_nil _ _ _ _ _ | exact Kd.V_nil _ _ _ _ _ | exact Kd.Q_nil _ _ _ _ _ | exact Kd.S_nil _ _ _ _ _⟩, ⟨by repeat (first | (with_reducible first | exact HB.out | apply below_alloc | apply pw_below_drewN | apply below_drew1) | exact HB.out)⟩⟩
 case round =>
  clear H'
  try clear p2
  obtain ⟨x5_1, x6_1, rfl, HA, HK1, HO_5, HB⟩ := hrel
  cases gk with
  | zero => exact absurd HA.out (by simp [formeref10_Children.l0])
  | succ k1 =>
   have H := HA.out
   clear HA
   simp only [formeref10_Children.l0] at H
   by_cases c3 : x6_1 < (l0.length : Int)
   ·rw [if_pos c3] at H
    have c3b0 : decide (x6_1 < (l0.length : Int)) = true := decide_eq_true c3
    clear c3
    by_cases c4 : 0 ≤ x6_1
    rotate_left
    ·rw [if_neg c4] at H; exact absurd H (by simp)
    rw [if_pos c4] at H
    have c4b0 : decide (0 ≤ x6_1) = true := decide_eq_true c4
    clear c4
    by_cases c5 : ((rd_T24 l0 x6_1).f1) = a1
    ·rw [if_pos c5] at H
     have c5b0 : (((rd_T24 l0 x6_1).f1) == a1) = true := beq_iff_eq.mpr c5
     have c5b1 : (((rd_T24 l0 x6_1).f1) != a1) = false := bne_eq_false_iff_eq.mpr c5
     clear c5
     by_cases c6 : x5_1.length < 17592186044416
     rotate_left
     ·rw [if_neg c6] at H; exact absurd H (by simp)
     rw [if_pos c6] at H
     have LMc6 := Aside0.mk c6
     clear c6
     obtain ⟨y262, hy262⟩ : ∃ y_ : List Int, y_ = (x5_1 ++ [(rd_T24 l0 x6_1).f0]) := ⟨_, rfl⟩
     replace H : (formeref10_Children.l0 k1 l0 a1 y262 (wrap64 (x6_1 + 1))) = some r := by first | (rw [hy262]; with_reducible exact H) | (have H2_ := (Option.bind_some _ _).symm.trans H; rw [hy262]; with_reducible exact H2_) | (have H2_ := (Option.bind_some _ _).symm.trans H; with_reducible exact H2_) | with_reducible exact H | (rw [hy262]; exact H) | exact H
     have Ny262 := Aside0.mk hy262
     clear hy262
     have H' := Aside0.mk H
     clear H
     have p260 : 0 ≤ (x6_1 : Int) := of_decide_eq_true (by first | (with_reducible assumption) | assumption)
     have q260 : x6_1 < (l0.length : Int) := of_decide_eq_true (by first | (with_reducible assumption) | assumption)
     obtain ⟨ad260, e260, hx260_0, hx260_1, hx260_2, hx260_3, hx260_4⟩ := at_T24 HR0.out x6_1 p260 q260
     cases e260
     replace hx260_0 := (HB.out.cell (World.block_lt_of_cell? w _ hx260_0)).trans hx260_0
     replace hx260_1 := (HB.out.cell (World.block_lt_of_cell? w _ hx260_1)).trans hx260_1
     replace hx260_2 := (HB.out.cell (World.block_lt_of_cell? w _ hx260_2)).trans hx260_2
     replace hx260_3 := (HB.out.cell (World.block_lt_of_cell? w _ hx260_3)).trans hx260_3
     replace hx260_4 := (HB.out.cell (World.block_lt_of_cell? w _ hx260_4)).trans hx260_4
     replace p260 := eq_true p260
     replace q260 := eq_true q260
     have p261 : 0 ≤ (x6_1 : Int) := of_decide_eq_true (by first | (with_reducible assumption) | assumption)
     have q261 : x6_1 < (l0.length : Int) := of_decide_eq_true (by first | (with_reducible assumption) | assumption)
     obtain ⟨ad261, e261, hx261_0, hx261_1, hx261_2, hx261_3, hx261_4⟩ := at_T24 HR0.out x6_1 p261 q261
     obtain rfl : ad260 = ad261 := (by injection e261)
     replace hx261_0 := (HB.out.cell (World.block_lt_of_cell? w _ hx261_0)).trans hx261_0
     replace hx261_1 := (HB.out.cell (World.block_lt_of_cell? w _ hx261_1)).trans hx261_1
     replace hx261_2 := (HB.out.cell (World.block_lt_of_cell? w _ hx261_2)).trans hx261_2
     replace hx261_3 := (HB.out.cell (World.block_lt_of_cell? w _ hx261_3)).trans hx261_3
     replace hx261_4 := (HB.out.cell (World.block_lt_of_cell? w _ hx261_4)).trans hx261_4
     replace p261 := eq_true p261
     replace q261 := eq_true q261
     go_wp2_with (first | ((with_reducible refine gate_builtin (b := .append) (xs := #[.tmp 20, .tmp 26]) rfl ?_); at_builtin; refine Kd.R_append (Kd.int .i64) (w0 := w) w.heap.size rfl (.tmp 20) (.tmp 26) 30 3 (.int .i64 0) 8 rfl Try.underlying30 info3 rfl (by decide) (by omega) u5 x5_1 ((rd_T24 l0 x6_1).f0) [.int .i64 ((rd_T24 l0 x6_1).f0)] (fun _ => True) (fun _ => False) rfl rfl ?aP (fun _ hk => hk.elim) ?aF ?aO ?aB ?aS ?aL ?_; (case aP => exact rfl); (case aB => exact (by repeat (first | (with_reducible first | exact HB.out | apply below_alloc | apply pw_below_drewN | apply below_drew1) | exact HB.out))); (case aF => exact (fun _ _ => trivial)); (case aO => exact (by (with_reducible repeat (first | apply Kd.R_alloc | apply Kd.R_drewN | apply Kd.R_drew)); exact HO_5.out)); (case aS => exact (below_size (by repeat (first | (with_reducible first | exact HB.out | apply below_alloc | apply pw_below_drewN | apply below_drew1) | exact HB.out)))); (case aL => have := LMc6.out; omega); intro v263 w7 ho hb hg hat; rw [← Ny262.out] at ho; have n0_ := Aside0.mk (hb); have n1_ := Aside0.mk (ho); clear HB; clear HO_5; have HB := n0_; have HO264 := n1_; clear n0_ n1_; clear ho hb hg hat))
     go_roundg k1
     case measure => have := HK1.out; omega
     case rel => exact ⟨(y262), (wrap64 (x6_1 + 1)), (by first | rfl | (simp; done) | (simp [*]; done)), H', ⟨by have := HK1.out; omega⟩, ⟨by (with_reducible repeat (first | apply Kd.R_alloc | apply Kd.R_drewN | apply Kd.R_drew)); exact HO264.out⟩, ⟨by repeat (first | (with_reducible first | exact HB.out | apply below_alloc | apply pw_below_drewN | apply below_drew1) | exact HB.out)⟩⟩
    ·rw [if_neg c5] at H
     have c5b0 : (((rd_T24 l0 x6_1).f1) == a1) = false := beq_eq_false_iff_ne.mpr c5
     have c5b1 : (((rd_T24 l0 x6_1).f1) != a1) = true := bne_iff_ne.mpr c5
     have H' := Aside0.mk H
     clear H
     have p260 : 0 ≤ (x6_1 : Int) := of_decide_eq_true (by first | (with_reducible assumption) | assumption)
     have q260 : x6_1 < (l0.length : Int) := of_decide_eq_true (by first | (with_reducible assumption) | assumption)
     obtain ⟨ad260, e260, hx260_0, hx260_1, hx260_2, hx260_3, hx260_4⟩ := at_T24 HR0.out x6_1 p260 q260
     cases e260
     replace hx260_0 := (HB.out.cell (World.block_lt_of_cell? w _ hx260_0)).trans hx260_0
     replace hx260_1 := (HB.out.cell (World.block_lt_of_cell? w _ hx260_1)).trans hx260_1
     replace hx260_2 := (HB.out.cell (World.block_lt_of_cell? w _ hx260_2)).trans hx260_2
     replace hx260_3 := (HB.out.cell (World.block_lt_of_cell? w _ hx260_3)).trans hx260_3
     replace hx260_4 := (HB.out.cell (World.block_lt_of_cell? w _ hx260_4)).trans hx260_4
     replace p260 := eq_true p260
     replace q260 := eq_true q260
     go_wp2
     go_roundg k1
     case measure => have := HK1.out; omega
     case rel => exact ⟨(x5_1), (wrap64 (x6_1 + 1)), (by first | rfl | (simp; done) | (simp [*]; done)), H', ⟨by have := HK1.out; omega⟩, ⟨by (with_reducible repeat (first | apply Kd.R_alloc | apply Kd.R_drewN | apply Kd.R_drew)); exact HO_5.out⟩, ⟨by repeat (first | (with_reducible first | exact HB.out | apply below_alloc | apply pw_below_drewN | apply below_drew1) | exact HB.out)⟩⟩
   ·rw [if_neg c3] at H
    have c3b0 : decide (x6_1 < (l0.length : Int)) = false := decide_eq_false c3
    clear c3
    obtain rfl := Option.some.inj H
    go_wp2
    go_ret
    exact ⟨_, by first | rfl | (simp [errW_none, errW_some] <;> rfl) | (simp [*, errW_none, errW_some] <;> rfl), by (with_reducible repeat (first | apply Kd.R_alloc | apply Kd.R_drewN | apply Kd.R_drew)); exact HO_5.out, by repeat (first | (with_reducible first | exact HB.out | apply below_alloc | apply pw_below_drewN | apply below_drew1) | exact HB.out)⟩
end Go.Proofs.Ytpafhhgoldenoaa.P
end
section
namespace Go.Proofs.Ytpafhhgoldenoaa.P
open Go.RowKit Go.Proofs.YtpafhhgoldenoaaW.PrintWords Go.Proofs.YtpafhhgoldenoaaW.PrintLast Go.Proofs.YtpafhhgoldenoaaW.PrintMore
open Go.Proofs.Ytpafhhgoldenoaa.XM
set_option linter.unusedVariables false
set_option linter.unusedSimpArgs false
theorem refHas_go (p : List Int) (x : Int) (hp : p.length ≤ 1000000) : ∀ (d i : Nat), i ≤ p.length → p.length - i ≤ d → Ev (fun k => formeref10_Has.l0 k p x i) (decide (x ∈ p.drop i)) := by
 intro d
 induction d with
 | zero =>
  intro i hi hd
  refine Ev.up ?_
  simp only [formeref10_Has.l0]
  refine Ev.els (by omega) (Ev.const ?_)
  rw [List.drop_eq_nil_of_le (by omega)]
  simp
 | succ d ih =>
  intro i hi hd
  refine Ev.up ?_
  simp only [formeref10_Has.l0]
  by_cases hlt : i < p.length
  ·refine Ev.thn (by omega) (Ev.thn (by omega) ?_)
   have e : rd p (i : Int) = p[i] := by simp [rd, hlt]
   rw [e, List.drop_eq_getElem_cons hlt]
   by_cases he : p[i] = x
   ·refine Ev.thn he (Ev.const ?_)
    simp [he]
   ·refine Ev.els he ?_
    rw [w64n i (by omega)]
    have := ih (i + 1) hlt (by omega)
    have e2 : decide (x ∈ p[i] :: p.drop (i + 1)) = decide (x ∈ p.drop (i + 1)) := by
     generalize p.drop (i + 1) = U
     rw [Bool.eq_iff_iff, decide_eq_true_eq, decide_eq_true_eq, List.mem_cons]
     exact ⟨fun c => c.elim (fun c => absurd c.symm he) (fun c => c), .inr⟩
    rw [e2]
    exact this
  ·refine Ev.els (by omega) (Ev.const ?_)
   rw [List.drop_eq_nil_of_le (by omega)]
   simp
theorem refHas (p : List Int) (x : Int) (hp : p.length ≤ 1000000) : Ev (fun k => formeref10_Has.f k p x) (decide (x ∈ p)) := by
 simpa [formeref10_Has.f] using refHas_go p x hp p.length 0 (by omega) (by omega)
theorem refSame_go (a : List S24) (ha : a.length ≤ 1000000) : ∀ (d i : Nat), i ≤ a.length → a.length - i ≤ d → Ev (fun k => formeref10_Same.l0 k a a i) true := by
 intro d
 induction d with
 | zero =>
  intro i hi hd
  refine Ev.up ?_
  simp only [formeref10_Same.l0]
  exact Ev.els (by omega) (Ev.now _)
 | succ d ih =>
  intro i hi hd
  refine Ev.up ?_
  simp only [formeref10_Same.l0]
  by_cases hlt : i < a.length
  ·refine Ev.thn (by omega) (Ev.thn (by omega) (Ev.thn (by omega) (Ev.els (by simp) ?_)))
   rw [w64n i (by omega)]
   exact ih (i + 1) hlt (by omega)
  ·exact Ev.els (by omega) (Ev.now _)
theorem refSame (a : List S24) (ha : a.length ≤ 1000000) : Ev (fun k => formeref10_Same.f k a a) true := by
 simp only [formeref10_Same.f]
 exact Ev.thn trivial (refSame_go a ha a.length 0 (by omega) (by omega))
end Go.Proofs.Ytpafhhgoldenoaa.P
end
section
namespace Go.Proofs.Ytpafhhgoldenoaa.P
open Go.RowKit Go.Proofs.YtpafhhgoldenoaaW.PrintWords Go.Proofs.YtpafhhgoldenoaaW.PrintLast Go.Proofs.YtpafhhgoldenoaaW.PrintMore
attribute [local go_sem] max2_int min2_int max_two min_two max_three min_three max_four min_four
set_option linter.unusedVariables false
set_option linter.unusedSimpArgs false
def formelaw10_TreeRemoves.l0 : Nat → List (S24) → Bool → Int → List (S24) → List (S24) → List (S24) → Int → Int → Option (Bool)
 | 0, _, _, _, _, _, _, _, _ => none
 | k + 1, x0, x5, x6, x7, x9, x54, x55, x56 => if x56 < x55 then (if 0 ≤ x56 then (if x56 < (x54.length : Int) then ((tree_Path.f x0 ((rd_T24 x54 x56).f0)).bind fun bt533 => (if bt533.2 = 0 then ((formeref10_Has.f k bt533.1 x6).bind fun t537 => (if t537 = true then (formelaw10_TreeRemoves.l0 k x0 x5 x6 x7 x9 x54 x55 (wrap64 (x56 + 1))) else (if x9.length < 2932031007402 then (formelaw10_TreeRemoves.l0 k x0 x5 x6 x7 (x9 ++ [(⟨(rd_T24 x54 x56).f0, (rd_T24 x54 x56).f1, (rd_T24 x54 x56).f2, (rd_T24 x54 x56).f3, (rd_T24 x54 x56).f4⟩ : S24)]) x54 x55 (wrap64 (x56 + 1))) else (none)))) else (none))) else (none)) else (none)) else (if x5 = true then ((tree_Valid.f x7).bind fun t529 => (if t529 = true then ((formeref10_Same.f k x7 x9).bind fun t530 => (if t530 = true then (some (decide ((x7.length : Int) < (x0.length : Int)))) else (none))) else (none))) else (none))
def formelaw10_TreeRemoves.f (k : Nat) (l0 : List (S24)) (a1 : Int) : Option (Bool) := (formelaw10_head.f k).bind fun t521 => ((formelaw10_usable.f k l0).bind fun t522 => (if t522 = true then (if (l0.length : Int) = 0 then (none) else (if 0 ≤ (Int.tmod (wrap64 (a1)) (l0.length : Int)) then (if (Int.tmod (wrap64 (a1)) (l0.length : Int)) < (l0.length : Int) then ((tree_Remove.f l0 ((rd_T24 l0 (Int.tmod (wrap64 (a1)) (l0.length : Int))).f0)).bind fun bt524 => (if bt524.2 = 0 then (formelaw10_TreeRemoves.l0 k l0 t521 ((rd_T24 l0 (Int.tmod (wrap64 (a1)) (l0.length : Int))).f0) bt524.1 ([] : List (S24)) l0 (l0.length : Int) 0) else (if t521 = true then (if bt524.2 = 24 then (if 0 < (l0.length : Int) then (if ((rd_T24 l0 (Int.tmod (wrap64 (a1)) (l0.length : Int))).f0) = ((rd_T24 l0 0).f0) then (some ((bt524.1.length : Int) == 0)) else (none)) else (none)) else (none)) else (none)))) else (none)) else (none))) else (some t521)))
theorem formelaw10_TreeRemoves.mono_l : ∀ k, (∀ y0 y1 y2 y3 y4 y5 y6 y7, LeO (formelaw10_TreeRemoves.l0 k y0 y1 y2 y3 y4 y5 y6 y7) (formelaw10_TreeRemoves.l0 (k + 1) y0 y1 y2 y3 y4 y5 y6 y7))
 | 0 => fun _ _ _ _ _ _ _ _ r h => by simp [formelaw10_TreeRemoves.l0] at h
 | k + 1 => by
  have ih0 := formelaw10_TreeRemoves.mono_l k
  ·intro y0 y1 y2 y3 y4 y5 y6 y7
   unfold formelaw10_TreeRemoves.l0
   repeat' first
   | (with_reducible exact ih0 _ _ _ _ _ _ _ _)
   | (with_reducible exact formelaw10_head.mono _)
   | (with_reducible exact formelaw10_usable.mono _ _)
   | (with_reducible exact formeref10_Has.mono _ _ _)
   | (with_reducible exact formeref10_Same.mono _ _ _)
   | (with_reducible exact LeO.refl _)
   | (with_reducible exact LeO.none _)
   | (with_reducible refine LeO.ite ?_ ?_)
   | (with_reducible refine LeO.bind ?_ (fun _ => ?_))
   | exact ih0 _ _ _ _ _ _ _ _
   | exact formelaw10_head.mono _
   | exact formelaw10_usable.mono _ _
   | exact formeref10_Has.mono _ _ _
   | exact formeref10_Same.mono _ _ _
   | exact LeO.none _
   | refine LeO.ite ?_ ?_
   | refine LeO.bind ?_ (fun _ => ?_)
theorem formelaw10_TreeRemoves.mono : ∀ a0 a1 k, LeO (formelaw10_TreeRemoves.f k a0 a1) (formelaw10_TreeRemoves.f (k + 1) a0 a1) := by
 intro a0 a1 k
 have ih0 := formelaw10_TreeRemoves.mono_l k
 unfold formelaw10_TreeRemoves.f
 repeat' first
   | (with_reducible exact ih0 _ _ _ _ _ _ _ _)
   | (with_reducible exact formelaw10_head.mono _)
   | (with_reducible exact formelaw10_usable.mono _ _)
   | (with_reducible exact formeref10_Has.mono _ _ _)
   | (with_reducible exact formeref10_Same.mono _ _ _)
   | (with_reducible exact LeO.refl _)
   | (with_reducible exact LeO.none _)
   | (with_reducible refine LeO.ite ?_ ?_)
   | (with_reducible refine LeO.bind ?_ (fun _ => ?_))
   | exact ih0 _ _ _ _ _ _ _ _
   | exact formelaw10_head.mono _
   | exact formelaw10_usable.mono _ _
   | exact formeref10_Has.mono _ _ _
   | exact formeref10_Same.mono _ _ _
   | exact LeO.none _
   | refine LeO.ite ?_ ?_
   | refine LeO.bind ?_ (fun _ => ?_)
set_option maxHeartbeats 8000000 in
set_option maxRecDepth 100000 in
theorem formelaw10_TreeRemoves.calls (k : Nat) (A0 : Option Addr) (c0 : Nat) (l0 : List (S24)) (a1 : Int) (r : Bool) (w : World) (hr0 : Kd.C k24 w A0 l0.length l0) (hc0 : l0.length ≤ c0) (h : formelaw10_TreeRemoves.f k l0 a1 = some r) :
  Calls Try.prog 7 #[.slice A0 l0.length c0, .int .u8 a1] w fun e w' => e = .returned (.bool r) ∧ Below w.heap.size w w' := by
 have hu24 := Try.underlying24
 have HR0 := Aside0.mk hr0
 have HC0 := Aside0.mk hc0
 clear hr0 hc0
 have HB := Aside0.mk (Below.refl w.heap.size w)
 have H : ((formelaw10_head.f k).bind fun t521 => ((formelaw10_usable.f k l0).bind fun t522 => (if t522 = true then (if (l0.length : Int) = 0 then (none) else (if 0 ≤ (Int.tmod (wrap64 (a1)) (l0.length : Int)) then (if (Int.tmod (wrap64 (a1)) (l0.length : Int)) < (l0.length : Int) then ((tree_Remove.f l0 ((rd_T24 l0 (Int.tmod (wrap64 (a1)) (l0.length : Int))).f0)).bind fun bt524 => (if bt524.2 = 0 then (formelaw10_TreeRemoves.l0 k l0 t521 ((rd_T24 l0 (Int.tmod (wrap64 (a1)) (l0.length : Int))).f0) bt524.1 ([] : List (S24)) l0 (l0.length : Int) 0) else (if t521 = true then (if bt524.2 = 24 then (if 0 < (l0.length : Int) then (if ((rd_T24 l0 (Int.tmod (wrap64 (a1)) (l0.length : Int))).f0) = ((rd_T24 l0 0).f0) then (some ((bt524.1.length : Int) == 0)) else (none)) else (none)) else (none)) else (none)))) else (none)) else (none))) else (some t521)))) = some r := h
 clear h
 replace H := Option.bind_eq_some_iff.mp H
 obtain ⟨t521, A30, H⟩ := H
 try dsimp only at H
 have A3 := Aside0.mk A30
 clear A30
 replace H := Option.bind_eq_some_iff.mp H
 obtain ⟨t522, A40, H⟩ := H
 try dsimp only at H
 have A4 := Aside0.mk A40
 clear A40
 by_cases c5 : t522 = true
 ·subst c5
  have H1 : (if (l0.length : Int) = 0 then (none) else (if 0 ≤ (Int.tmod (wrap64 (a1)) (l0.length : Int)) then (if (Int.tmod (wrap64 (a1)) (l0.length : Int)) < (l0.length : Int) then ((tree_Remove.f l0 ((rd_T24 l0 (Int.tmod (wrap64 (a1)) (l0.length : Int))).f0)).bind fun bt524 => (if bt524.2 = 0 then (formelaw10_TreeRemoves.l0 k l0 t521 ((rd_T24 l0 (Int.tmod (wrap64 (a1)) (l0.length : Int))).f0) bt524.1 ([] : List (S24)) l0 (l0.length : Int) 0) else (if t521 = true then (if bt524.2 = 24 then (if 0 < (l0.length : Int) then (if ((rd_T24 l0 (Int.tmod (wrap64 (a1)) (l0.length : Int))).f0) = ((rd_T24 l0 0).f0) then (some ((bt524.1.length : Int) == 0)) else (none)) else (none)) else (none)) else (none)))) else (none)) else (none))) = some r := by rw [if_pos rfl] at H; exact H
  clear H
  have H := H1
  clear H1
  by_cases c6 : (l0.length : Int) = 0
  ·rw [if_pos c6] at H
   exact absurd H (by simp)
  ·rw [if_neg c6] at H
   have c6b0 : ((l0.length : Int) == 0) = false := beq_eq_false_iff_ne.mpr c6
   have c6b1 : ((l0.length : Int) != 0) = true := bne_iff_ne.mpr c6
   have c6b2 : ¬ (l0 = []) := fun h_ => c6 (by rw [h_]; rfl)
   obtain ⟨ji7, hji7⟩ : ∃ j_ : Int, (Int.tmod (wrap64 (a1)) (l0.length : Int)) = j_ := ⟨_, rfl⟩
   replace H : (if 0 ≤ (ji7) then (if (ji7) < (l0.length : Int) then ((tree_Remove.f l0 ((rd_T24 l0 (ji7)).f0)).bind fun bt524 => (if bt524.2 = 0 then (formelaw10_TreeRemoves.l0 k l0 t521 ((rd_T24 l0 (ji7)).f0) bt524.1 ([] : List (S24)) l0 (l0.length : Int) 0) else (if t521 = true then (if bt524.2 = 24 then (if 0 < (l0.length : Int) then (if ((rd_T24 l0 (ji7)).f0) = ((rd_T24 l0 0).f0) then (some ((bt524.1.length : Int) == 0)) else (none)) else (none)) else (none)) else (none)))) else (none)) else (none)) = some r := by first | (rw [hji7] at H; exact H) | (simp only [hji7] at H ⊢; exact H)
   (try rw [hji7] at A3)
   (try rw [hji7] at A4)
   by_cases c8 : 0 ≤ (ji7)
   rotate_left
   ·rw [if_neg c8] at H; exact absurd H (by simp)
   rw [if_pos c8] at H
   have c8b0 : decide (0 ≤ (ji7)) = true := decide_eq_true c8
   clear c8
   by_cases c9 : (ji7) < (l0.length : Int)
   rotate_left
   ·rw [if_neg c9] at H; exact absurd H (by simp)
   rw [if_pos c9] at H
   have c9b0 : decide ((ji7) < (l0.length : Int)) = true := decide_eq_true c9
   clear c9
   replace H := Option.bind_eq_some_iff.mp H
   obtain ⟨⟨t524, t525⟩, A100, H⟩ := H
   try dsimp only at H
   have A10 := Aside0.mk A100
   clear A100
   by_cases c11 : t525 = 0
   ·rw [if_pos c11] at H
    have c11b0 : (t525 == 0) = true := beq_iff_eq.mpr c11
    have c11b1 : (t525 != 0) = false := bne_eq_false_iff_eq.mpr c11
    clear c11
    have H' := Aside0.mk H
    clear H
    go_enter Try.func7, Try.ntmps7
    go_wp2_with (first | ((with_reducible refine gate_callee (f := 9) rfl ?_); refine goesL_ (some 14) rfl rfl Try.func9 (by kernel_rfl) rfl #[] rfl (by (try simp only [List.map_toArray, List.map_cons, List.map_nil]); first | done | rfl | (simp only [List.length_drop, List.length_take]; rfl)) ?_; (with_reducible refine (formelaw10_head.calls k  t521 _ A3.out).mono ?_); rintro e w12 ⟨rfl, hb⟩; refine ⟨_, rfl, ?_⟩; have n0_ := Aside0.mk (below_step (by repeat (first | (with_reducible first | exact HB.out | apply below_alloc | apply pw_below_drewN | apply below_drew1) | exact HB.out)) hb); clear HB; have HB := n0_; clear n0_; (try clear hb); (try clear hb2); (try clear hk); (try clear hi)) | ((with_reducible refine gate_callee (f := 27) rfl ?_); refine goesL_ (some 16) rfl rfl Try.func27 (by kernel_rfl) rfl #[.slice A0 l0.length c0] rfl (by (try simp only [List.map_toArray, List.map_cons, List.map_nil]); first | done | rfl | (simp only [List.length_drop, List.length_take]; rfl)) ?_; (with_reducible refine (formelaw10_usable.calls k _ _ l0 true _ ?side1 ?side2 A4.out).mono ?_); (case side1 => repeat (first | exact (Kd.C_below HR0.out HB.out) | (with_reducible refine Kd.C_alloc ?_ _) | (with_reducible refine Kd.C_drewN ?_ _) | (with_reducible refine Kd.C_drew ?_))); (case side2 => exact HC0.out); rintro e w13 ⟨rfl, hb⟩; refine ⟨_, rfl, ?_⟩; have n0_ := Aside0.mk (below_step (by repeat (first | (with_reducible first | exact HB.out | apply below_alloc | apply pw_below_drewN | apply below_drew1) | exact HB.out)) hb); clear HB; have HB := n0_; clear n0_; (try clear hb); (try clear hb2); (try clear hk); (try clear hi); have p523 : 0 ≤ ((ji7) : Int) := of_decide_eq_true (by first | (with_reducible assumption) | assumption); have q523 : (ji7) < (l0.length : Int) := of_decide_eq_true (by first | (with_reducible assumption) | assumption); obtain ⟨ad523, e523, hx523_0, hx523_1, hx523_2, hx523_3, hx523_4⟩ := at_T24 HR0.out (ji7) p523 q523; cases e523; replace hx523_0 := (HB.out.cell (World.block_lt_of_cell? w _ hx523_0)).trans hx523_0; replace hx523_1 := (HB.out.cell (World.block_lt_of_cell? w _ hx523_1)).trans hx523_1; replace hx523_2 := (HB.out.cell (World.block_lt_of_cell? w _ hx523_2)).trans hx523_2; replace hx523_3 := (HB.out.cell (World.block_lt_of_cell? w _ hx523_3)).trans hx523_3; replace hx523_4 := (HB.out.cell (World.block_lt_of_cell? w _ hx523_4)).trans hx523_4; replace p523 := eq_true p523; replace q523 := eq_true q523) | ((with_reducible refine gate_callee (f := 23) rfl ?_); refine goesL_ (some 31) rfl rfl Try.func23 (by kernel_rfl) rfl #[.slice (some ad523) l0.length c0, .int .i64 ((rd_T24 l0 (ji7)).f0)] rfl (by (try simp only [List.map_toArray, List.map_cons, List.map_nil]); first | done | (simp only [hji7]; rfl) | rfl | (simp only [List.length_drop, List.length_take]; rfl)) ?_; (with_reducible refine (tree_Remove.calls _ _ l0 ((rd_T24 l0 (ji7)).f0) t524 t525 _ ?side1 ?side2 A10.out).mono ?_); (case side1 => repeat (first | exact (Kd.C_below HR0.out HB.out) | (with_reducible refine Kd.C_alloc ?_ _) | (with_reducible refine Kd.C_drewN ?_ _) | (with_reducible refine Kd.C_drew ?_))); (case side2 => exact HC0.out); rintro e w14 ⟨v526, rfl, ho0, hb⟩; refine ⟨_, rfl, ?_⟩; have n0_ := Aside0.mk (Kd.R_lower ho0 (below_size (by repeat (first | (with_reducible first | exact HB.out | apply below_alloc | apply pw_below_drewN | apply below_drew1) | exact HB.out)))); have n1_ := Aside0.mk (below_step (by repeat (first | (with_reducible first | exact HB.out | apply below_alloc | apply pw_below_drewN | apply below_drew1) | exact HB.out)) hb); clear HB; have HO527 := n0_; have HB := n1_; clear n0_ n1_; (try clear hb); (try clear hb2); (try clear hk); (try clear hi); (try clear ho0)))
    go_loopg [9, 56] k (fun kq v9 v56 w' => ∃ (x9_1 : List (S24)) (x56_1 : Int), v56 = .int .i64 x56_1 ∧ Aside0 (formelaw10_TreeRemoves.l0 kq l0 t521 ((rd_T24 l0 (ji7)).f0) t524 x9_1 l0 (l0.length : Int) x56_1 = some r) ∧ Aside0 (kq ≤ k) ∧ Aside0 (Kd.R k24 24 w' w.heap.size (fun k_ => some k_ ≠ (v9 : Value).ownBlock) v526 t524) ∧ Aside0 (Kd.R k24 24 w' w.heap.size (fun k_ => some k_ ≠ (v526 : Value).ownBlock) v9 x9_1) ∧ Aside0 (Below w.heap.size w w'))
    case atStart => exact ⟨(([] : List (S24))), (0), (by first | rfl | (simp; done) | (simp [*]; done)), H', ⟨Nat.le_refl _⟩, ⟨by (with_reducible repeat (first | apply Kd.R_alloc | apply Kd.R_drewN | apply Kd.R_drew)); exact Kd.R_mono HO527.out (fun _ hk => (by simp [Value.ownBlock]))⟩, ⟨by first | exact Kd.R_nil _ _ _ _ _ | exact Kd.N_nil _ _ _ _ _ | exact Kd.V_nil _ _ _ _ _ | exact Kd.Q_nil _ _ _ _ _ | exact Kd.S_nil _ _ _ _ _⟩, ⟨by repeat (first | (with_reducible first | exact HB.out | apply below_alloc | apply pw_below_drewN | apply below_drew1) | exact HB.out)⟩⟩
    case round =>
     clear H'
     try clear c1
     try clear c2
     try clear p2
     try clear c5
     try clear p5
     try clear q5
     try clear hx5
     try clear c6
     try clear c6b0
     try clear c6b1
     try clear c6b2
     try clear p6
     try clear c7
     try clear c8
     try clear c8b0
     try clear c9
     try clear c9b0
     try clear c11
     try clear c11b0
     try clear c11b1
     try clear hx523_0
     try clear hx523_1
     try clear hx523_2
     try clear hx523_3
     try clear hx523_4
     try clear p523
     try clear q523
     obtain ⟨x9_1, x56_1, rfl, HA, HK1, HO_7, HO_9, HB⟩ := hrel
     cases gk with
     | zero => exact absurd HA.out (by simp [formelaw10_TreeRemoves.l0])
     | succ k1 =>
      have H := HA.out
      clear HA
      simp only [formelaw10_TreeRemoves.l0] at H
      by_cases c15 : x56_1 < (l0.length : Int)
      ·rw [if_pos c15] at H
       have c15b0 : decide (x56_1 < (l0.length : Int)) = true := decide_eq_true c15
       clear c15
       by_cases c16 : 0 ≤ x56_1
       rotate_left
       ·rw [if_neg c16] at H; exact absurd H (by simp)
       rw [if_pos c16] at H
       have c16b0 : decide (0 ≤ x56_1) = true := decide_eq_true c16
       clear c16
       by_cases c17 : x56_1 < (l0.length : Int)
       rotate_left
       ·rw [if_neg c17] at H; exact absurd H (by simp)
       rw [if_pos c17] at H
       have c17b0 : decide (x56_1 < (l0.length : Int)) = true := decide_eq_true c17
       clear c17
       replace H := Option.bind_eq_some_iff.mp H
       obtain ⟨⟨t533, t534⟩, A180, H⟩ := H
       try dsimp only at H
       have A18 := Aside0.mk A180
       clear A180
       by_cases c19 : t534 = 0
       rotate_left
       ·rw [if_neg c19] at H; exact absurd H (by simp)
       rw [if_pos c19] at H
       have c19b0 : (t534 == 0) = true := beq_iff_eq.mpr c19
       have c19b1 : (t534 != 0) = false := bne_eq_false_iff_eq.mpr c19
       clear c19
       replace H := Option.bind_eq_some_iff.mp H
       obtain ⟨t537, A200, H⟩ := H
       try dsimp only at H
       have A20 := Aside0.mk A200
       clear A200
       by_cases c21 : t537 = true
       ·subst c21
        have H1 : (formelaw10_TreeRemoves.l0 k1 l0 t521 ((rd_T24 l0 (ji7)).f0) t524 x9_1 l0 (l0.length : Int) (wrap64 (x56_1 + 1))) = some r := by rw [if_pos rfl] at H; exact H
        clear H
        have H := H1
        clear H1
        have H' := Aside0.mk H
        clear H
        have p531 : 0 ≤ (x56_1 : Int) := of_decide_eq_true (by first | (with_reducible assumption) | assumption)
        have q531 : x56_1 < (l0.length : Int) := of_decide_eq_true (by first | (with_reducible assumption) | assumption)
        obtain ⟨ad531, e531, hx531_0, hx531_1, hx531_2, hx531_3, hx531_4⟩ := at_T24 HR0.out x56_1 p531 q531
        obtain rfl : ad523 = ad531 := (by injection e531)
        replace hx531_0 := (HB.out.cell (World.block_lt_of_cell? w _ hx531_0)).trans hx531_0
        replace hx531_1 := (HB.out.cell (World.block_lt_of_cell? w _ hx531_1)).trans hx531_1
        replace hx531_2 := (HB.out.cell (World.block_lt_of_cell? w _ hx531_2)).trans hx531_2
        replace hx531_3 := (HB.out.cell (World.block_lt_of_cell? w _ hx531_3)).trans hx531_3
        replace hx531_4 := (HB.out.cell (World.block_lt_of_cell? w _ hx531_4)).trans hx531_4
        replace p531 := eq_true p531
        replace q531 := eq_true q531
        go_wp2_with (first | ((with_reducible refine gate_dst (N := 11) rfl ?_); (try (refine gate_guard (by rfl) ?_; dsimp only)); refine box_event ?hg (N := 11) ?hd (cs := #[.int .i64 0, .int .i64 0, .int .i64 0, .int .i64 0, .string (⟨#[]⟩ : ByteArray)]) (t := 24) ?hr ?_; (case hd => rfl); (case hg => rfl); (case hr => first | (go_simp; done) | (go_simp; rfl)); intro gb532 hg w22 hbox hb; have n0_ := Aside0.mk (Kd.R_below (Kd.R_elderB (by (with_reducible repeat (first | apply Kd.R_alloc | apply Kd.R_drewN | apply Kd.R_drew)); exact HO_7.out) gb532 (Nat.le_of_eq hg.symm)) hb); have n1_ := Aside0.mk (Kd.R_below (Kd.R_elderB (by (with_reducible repeat (first | apply Kd.R_alloc | apply Kd.R_drewN | apply Kd.R_drew)); exact HO_9.out) gb532 (Nat.le_of_eq hg.symm)) hb); have n2_ := Aside0.mk (below_step (by repeat (first | (with_reducible first | exact HB.out | apply below_alloc | apply pw_below_drewN | apply below_drew1) | exact HB.out)) hb); have n3_ := Aside0.mk (hbox); have n4_ := Aside0.mk ((by rw [hg]; exact (below_size (by repeat (first | (with_reducible first | exact HB.out | apply below_alloc | apply pw_below_drewN | apply below_drew1) | exact HB.out))) : w.heap.size ≤ gb532)); have n5_ := Aside0.mk ((by rw [hg]; exact (below_size (by repeat (first | (with_reducible first | exact HB.out | apply below_alloc | apply pw_below_drewN | apply below_drew1) | exact HB.out))) : w.heap.size ≤ gb532)); clear HO_7; clear HO_9; clear HB; have HO_7 := n0_; have HO_9 := n1_; have HB := n2_; have BK532 := n3_; have GW532 := n4_; have GE532 := n5_; clear n0_ n1_ n2_ n3_ n4_ n5_; clear hb hbox hg; have hcz23_0 : w22.cell? ⟨gb532, 0, none⟩ = some (.int .i64 0) := (blk_cell BK532.out 0).trans rfl; have hcz23_1 : w22.cell? ⟨gb532, 1, none⟩ = some (.int .i64 0) := (blk_cell BK532.out 1).trans rfl; have hcz23_2 : w22.cell? ⟨gb532, 2, none⟩ = some (.int .i64 0) := (blk_cell BK532.out 2).trans rfl; have hcz23_3 : w22.cell? ⟨gb532, 3, none⟩ = some (.int .i64 0) := (blk_cell BK532.out 3).trans rfl; have hcz23_4 : w22.cell? ⟨gb532, 4, none⟩ = some (.string (⟨#[]⟩ : ByteArray)) := (blk_cell BK532.out 4).trans rfl; have hfz23_0 := blk_frozen BK532.out 0; have hfz23_1 := blk_frozen BK532.out 1; have hfz23_2 := blk_frozen BK532.out 2; have hfz23_3 := blk_frozen BK532.out 3; have hfz23_4 := blk_frozen BK532.out 4) | ((with_reducible refine gate_callee (f := 18) rfl ?_); refine goesL_ (some 64) rfl rfl Try.func18 (by kernel_rfl) rfl #[.slice (some ad523) l0.length c0, .int .i64 ((rd_T24 l0 x56_1).f0)] rfl (by (try simp only [List.map_toArray, List.map_cons, List.map_nil]); first | done | rfl | (simp only [List.length_drop, List.length_take]; rfl)) ?_; (with_reducible refine (tree_Path.calls _ _ l0 ((rd_T24 l0 x56_1).f0) t533 t534 _ ?side1 ?side2 A18.out).mono ?_); (case side1 => exact Kd.C_below HR0.out (by repeat (first | (with_reducible first | exact HB.out | apply below_alloc | apply pw_below_drewN | apply below_drew1 | refine below_set ?_ GE532.out) | exact HB.out))); (case side2 => exact HC0.out); rintro e w24 ⟨v535, rfl, ho0, hb⟩; refine ⟨_, rfl, ?_⟩; have n0_ := Aside0.mk (Kd.R_below (by (with_reducible repeat (first | apply Kd.R_alloc | apply Kd.R_drewN | apply Kd.R_drew)); exact (Kd.R_mono (Kd.R_far (p := ⟨gb532, 4, none⟩) (Kd.R_far (p := ⟨gb532, 3, none⟩) (Kd.R_far (p := ⟨gb532, 2, none⟩) (Kd.R_far (p := ⟨gb532, 1, none⟩) (Kd.R_far (p := ⟨gb532, 0, none⟩) (Kd.R_mono HO_7.out (fun k_ hk => (⟨hk, hk.2⟩ : _ ∧ k_ ≠ gb532))) (fun _ hk => hk.2) (.int .i64 ((rd_T24 l0 x56_1).f0))) (fun _ hk => hk.2) (.int .i64 ((rd_T24 l0 x56_1).f1))) (fun _ hk => hk.2) (.int .i64 ((rd_T24 l0 x56_1).f2))) (fun _ hk => hk.2) (.int .i64 ((rd_T24 l0 x56_1).f3))) (fun _ hk => hk.2) (.string ((rd_T24 l0 x56_1).f4))) (fun _ h_ => h_.1))) hb); have n1_ := Aside0.mk (Kd.R_below (by (with_reducible repeat (first | apply Kd.R_alloc | apply Kd.R_drewN | apply Kd.R_drew)); exact (Kd.R_mono (Kd.R_far (p := ⟨gb532, 4, none⟩) (Kd.R_far (p := ⟨gb532, 3, none⟩) (Kd.R_far (p := ⟨gb532, 2, none⟩) (Kd.R_far (p := ⟨gb532, 1, none⟩) (Kd.R_far (p := ⟨gb532, 0, none⟩) (Kd.R_mono HO_9.out (fun k_ hk => (⟨hk, hk.2⟩ : _ ∧ k_ ≠ gb532))) (fun _ hk => hk.2) (.int .i64 ((rd_T24 l0 x56_1).f0))) (fun _ hk => hk.2) (.int .i64 ((rd_T24 l0 x56_1).f1))) (fun _ hk => hk.2) (.int .i64 ((rd_T24 l0 x56_1).f2))) (fun _ hk => hk.2) (.int .i64 ((rd_T24 l0 x56_1).f3))) (fun _ hk => hk.2) (.string ((rd_T24 l0 x56_1).f4))) (fun _ h_ => h_.1))) hb); have n2_ := Aside0.mk (Kd.R_lower ho0 (below_size (by repeat (first | (with_reducible first | exact HB.out | apply below_alloc | apply pw_below_drewN | apply below_drew1 | refine below_set ?_ GE532.out) | exact HB.out)))); have n3_ := Aside0.mk (blk_below (g := gb532) (o := .cells #[.int .i64 ((rd_T24 l0 x56_1).f0), .int .i64 ((rd_T24 l0 x56_1).f1), .int .i64 ((rd_T24 l0 x56_1).f2), .int .i64 ((rd_T24 l0 x56_1).f3), .string ((rd_T24 l0 x56_1).f4)] 24 (0, 0)) (by (with_reducible repeat (first | refine blk_drewN ?_ _ | refine blk_drew ?_ | refine blk_alloc ?_ _)); refine blk_put (cs := #[.int .i64 ((rd_T24 l0 x56_1).f0), .int .i64 ((rd_T24 l0 x56_1).f1), .int .i64 ((rd_T24 l0 x56_1).f2), .int .i64 ((rd_T24 l0 x56_1).f3), .string (⟨#[]⟩ : ByteArray)]) ?_ 4 _ rfl; (with_reducible repeat (first | refine blk_drewN ?_ _ | refine blk_drew ?_ | refine blk_alloc ?_ _)); refine blk_put (cs := #[.int .i64 ((rd_T24 l0 x56_1).f0), .int .i64 ((rd_T24 l0 x56_1).f1), .int .i64 ((rd_T24 l0 x56_1).f2), .int .i64 0, .string (⟨#[]⟩ : ByteArray)]) ?_ 3 _ rfl; (with_reducible repeat (first | refine blk_drewN ?_ _ | refine blk_drew ?_ | refine blk_alloc ?_ _)); refine blk_put (cs := #[.int .i64 ((rd_T24 l0 x56_1).f0), .int .i64 ((rd_T24 l0 x56_1).f1), .int .i64 0, .int .i64 0, .string (⟨#[]⟩ : ByteArray)]) ?_ 2 _ rfl; (with_reducible repeat (first | refine blk_drewN ?_ _ | refine blk_drew ?_ | refine blk_alloc ?_ _)); refine blk_put (cs := #[.int .i64 ((rd_T24 l0 x56_1).f0), .int .i64 0, .int .i64 0, .int .i64 0, .string (⟨#[]⟩ : ByteArray)]) ?_ 1 _ rfl; (with_reducible repeat (first | refine blk_drewN ?_ _ | refine blk_drew ?_ | refine blk_alloc ?_ _)); refine blk_put (cs := #[.int .i64 0, .int .i64 0, .int .i64 0, .int .i64 0, .string (⟨#[]⟩ : ByteArray)]) ?_ 0 _ rfl; (with_reducible repeat (first | refine blk_drewN ?_ _ | refine blk_drew ?_ | refine blk_alloc ?_ _)); exact BK532.out) hb); have n4_ := Aside0.mk (below_step (by repeat (first | (with_reducible first | exact HB.out | apply below_alloc | apply pw_below_drewN | apply below_drew1 | refine below_set ?_ GE532.out) | exact HB.out)) hb); clear HO_7; clear HO_9; clear BK532; clear HB; have HO_7 := n0_; have HO_9 := n1_; have HO536 := n2_; have BK532 := n3_; have HB := n4_; clear n0_ n1_ n2_ n3_ n4_; (try clear hb); (try clear hb2); (try clear hk); (try clear hi); (try clear ho0); obtain ⟨Ao25, co25, eo25⟩ := Kd.R_slice HO536.out; subst eo25) | ((with_reducible refine gate_callee (f := 29) rfl ?_); refine goesL_ (some 71) rfl rfl Try.func29 (by kernel_rfl) rfl #[.slice Ao25 t533.length co25, .int .i64 ((rd_T24 l0 (ji7)).f0)] rfl (by (try simp only [List.map_toArray, List.map_cons, List.map_nil]); first | done | (simp only [hji7]; rfl) | rfl | (simp only [List.length_drop, List.length_take]; rfl)) ?_; (with_reducible refine (formeref10_Has.calls k1 _ _ t533 ((rd_T24 l0 (ji7)).f0) true _ ?side1 ?side2 A20.out).mono ?_); (case side1 => repeat (first | exact (Kd.R_reads' HO536.out).2.2 | (with_reducible refine Kd.C_alloc ?_ _) | (with_reducible refine Kd.C_drewN ?_ _) | (with_reducible refine Kd.C_drew ?_))); (case side2 => exact (Kd.R_reads' HO536.out).2.1); rintro e w' ⟨rfl, ⟨nd, rfl⟩⟩; refine ⟨_, rfl, ?_⟩))
        go_roundg k1
        case measure => have := HK1.out; omega
        case rel => exact ⟨(x9_1), (wrap64 (x56_1 + 1)), (by first | rfl | (simp; done) | (simp [*]; done)), H', ⟨by have := HK1.out; omega⟩, ⟨by (with_reducible repeat (first | apply Kd.R_alloc | apply Kd.R_drewN | apply Kd.R_drew)); exact Kd.R_mono HO_7.out (fun _ hk => hk.1)⟩, ⟨by (with_reducible repeat (first | apply Kd.R_alloc | apply Kd.R_drewN | apply Kd.R_drew)); exact Kd.R_mono HO_9.out (fun _ hk => hk.1)⟩, ⟨by repeat (first | (with_reducible first | exact HB.out | apply below_alloc | apply pw_below_drewN | apply below_drew1 | refine below_set ?_ GE532.out) | exact HB.out)⟩⟩
       ·replace c21 := Bool.eq_false_iff.mpr c21
        subst c21
        have H1 : (if x9_1.length < 2932031007402 then (formelaw10_TreeRemoves.l0 k1 l0 t521 ((rd_T24 l0 (ji7)).f0) t524 (x9_1 ++ [(⟨(rd_T24 l0 x56_1).f0, (rd_T24 l0 x56_1).f1, (rd_T24 l0 x56_1).f2, (rd_T24 l0 x56_1).f3, (rd_T24 l0 x56_1).f4⟩ : S24)]) l0 (l0.length : Int) (wrap64 (x56_1 + 1))) else (none)) = some r := by rw [if_neg (show ¬ (false = true) by decide)] at H; exact H
        clear H
        have H := H1
        clear H1
        by_cases c26 : x9_1.length < 2932031007402
        rotate_left
        ·rw [if_neg c26] at H; exact absurd H (by simp)
        rw [if_pos c26] at H
        have LMc26 := Aside0.mk c26
        clear c26
        obtain ⟨y538, hy538⟩ : ∃ y_ : List (S24), y_ = (x9_1 ++ [(⟨(rd_T24 l0 x56_1).f0, (rd_T24 l0 x56_1).f1, (rd_T24 l0 x56_1).f2, (rd_T24 l0 x56_1).f3, (rd_T24 l0 x56_1).f4⟩ : S24)]) := ⟨_, rfl⟩
        replace H : (formelaw10_TreeRemoves.l0 k1 l0 t521 ((rd_T24 l0 (ji7)).f0) t524 y538 l0 (l0.length : Int) (wrap64 (x56_1 + 1))) = some r := by first | (rw [hy538]; with_reducible exact H) | (have H2_ := (Option.bind_some _ _).symm.trans H; rw [hy538]; with_reducible exact H2_) | (have H2_ := (Option.bind_some _ _).symm.trans H; with_reducible exact H2_) | with_reducible exact H | (rw [hy538]; exact H) | exact H
        have Ny538 := Aside0.mk hy538
        clear hy538
        have H' := Aside0.mk H
        clear H
        have p531 : 0 ≤ (x56_1 : Int) := of_decide_eq_true (by first | (with_reducible assumption) | assumption)
        have q531 : x56_1 < (l0.length : Int) := of_decide_eq_true (by first | (with_reducible assumption) | assumption)
        obtain ⟨ad531, e531, hx531_0, hx531_1, hx531_2, hx531_3, hx531_4⟩ := at_T24 HR0.out x56_1 p531 q531
        obtain rfl : ad523 = ad531 := (by injection e531)
        replace hx531_0 := (HB.out.cell (World.block_lt_of_cell? w _ hx531_0)).trans hx531_0
        replace hx531_1 := (HB.out.cell (World.block_lt_of_cell? w _ hx531_1)).trans hx531_1
        replace hx531_2 := (HB.out.cell (World.block_lt_of_cell? w _ hx531_2)).trans hx531_2
        replace hx531_3 := (HB.out.cell (World.block_lt_of_cell? w _ hx531_3)).trans hx531_3
        replace hx531_4 := (HB.out.cell (World.block_lt_of_cell? w _ hx531_4)).trans hx531_4
        replace p531 := eq_true p531
        replace q531 := eq_true q531
        go_wp2_with (first | ((with_reducible refine gate_dst (N := 11) rfl ?_); (try (refine gate_guard (by rfl) ?_; dsimp only)); refine box_event ?hg (N := 11) ?hd (cs := #[.int .i64 0, .int .i64 0, .int .i64 0, .int .i64 0, .string (⟨#[]⟩ : ByteArray)]) (t := 24) ?hr ?_; (case hd => rfl); (case hg => rfl); (case hr => first | (go_simp; done) | (go_simp; rfl)); intro gb532 hg w27 hbox hb; have n0_ := Aside0.mk (Kd.R_below (Kd.R_elderB (by (with_reducible repeat (first | apply Kd.R_alloc | apply Kd.R_drewN | apply Kd.R_drew)); exact HO_7.out) gb532 (Nat.le_of_eq hg.symm)) hb); have n1_ := Aside0.mk (Kd.R_below (Kd.R_elderB (by (with_reducible repeat (first | apply Kd.R_alloc | apply Kd.R_drewN | apply Kd.R_drew)); exact HO_9.out) gb532 (Nat.le_of_eq hg.symm)) hb); have n2_ := Aside0.mk (below_step (by repeat (first | (with_reducible first | exact HB.out | apply below_alloc | apply pw_below_drewN | apply below_drew1) | exact HB.out)) hb); have n3_ := Aside0.mk (hbox); have n4_ := Aside0.mk ((by rw [hg]; exact (below_size (by repeat (first | (with_reducible first | exact HB.out | apply below_alloc | apply pw_below_drewN | apply below_drew1) | exact HB.out))) : w.heap.size ≤ gb532)); have n5_ := Aside0.mk ((by rw [hg]; exact (below_size (by repeat (first | (with_reducible first | exact HB.out | apply below_alloc | apply pw_below_drewN | apply below_drew1) | exact HB.out))) : w.heap.size ≤ gb532)); clear HO_7; clear HO_9; clear HB; have HO_7 := n0_; have HO_9 := n1_; have HB := n2_; have BK532 := n3_; have GW532 := n4_; have GE532 := n5_; clear n0_ n1_ n2_ n3_ n4_ n5_; clear hb hbox hg; have hcz28_0 : w27.cell? ⟨gb532, 0, none⟩ = some (.int .i64 0) := (blk_cell BK532.out 0).trans rfl; have hcz28_1 : w27.cell? ⟨gb532, 1, none⟩ = some (.int .i64 0) := (blk_cell BK532.out 1).trans rfl; have hcz28_2 : w27.cell? ⟨gb532, 2, none⟩ = some (.int .i64 0) := (blk_cell BK532.out 2).trans rfl; have hcz28_3 : w27.cell? ⟨gb532, 3, none⟩ = some (.int .i64 0) := (blk_cell BK532.out 3).trans rfl; have hcz28_4 : w27.cell? ⟨gb532, 4, none⟩ = some (.string (⟨#[]⟩ : ByteArray)) := (blk_cell BK532.out 4).trans rfl; have hfz28_0 := blk_frozen BK532.out 0; have hfz28_1 := blk_frozen BK532.out 1; have hfz28_2 := blk_frozen BK532.out 2; have hfz28_3 := blk_frozen BK532.out 3; have hfz28_4 := blk_frozen BK532.out 4) | ((with_reducible refine gate_callee (f := 18) rfl ?_); refine goesL_ (some 64) rfl rfl Try.func18 (by kernel_rfl) rfl #[.slice (some ad523) l0.length c0, .int .i64 ((rd_T24 l0 x56_1).f0)] rfl (by (try simp only [List.map_toArray, List.map_cons, List.map_nil]); first | done | rfl | (simp only [List.length_drop, List.length_take]; rfl)) ?_; (with_reducible refine (tree_Path.calls _ _ l0 ((rd_T24 l0 x56_1).f0) t533 t534 _ ?side1 ?side2 A18.out).mono ?_); (case side1 => exact Kd.C_below HR0.out (by repeat (first | (with_reducible first | exact HB.out | apply below_alloc | apply pw_below_drewN | apply below_drew1 | refine below_set ?_ GE532.out) | exact HB.out))); (case side2 => exact HC0.out); rintro e w29 ⟨v535, rfl, ho0, hb⟩; refine ⟨_, rfl, ?_⟩; have n0_ := Aside0.mk (Kd.R_below (by (with_reducible repeat (first | apply Kd.R_alloc | apply Kd.R_drewN | apply Kd.R_drew)); exact (Kd.R_mono (Kd.R_far (p := ⟨gb532, 4, none⟩) (Kd.R_far (p := ⟨gb532, 3, none⟩) (Kd.R_far (p := ⟨gb532, 2, none⟩) (Kd.R_far (p := ⟨gb532, 1, none⟩) (Kd.R_far (p := ⟨gb532, 0, none⟩) (Kd.R_mono HO_7.out (fun k_ hk => (⟨hk, hk.2⟩ : _ ∧ k_ ≠ gb532))) (fun _ hk => hk.2) (.int .i64 ((rd_T24 l0 x56_1).f0))) (fun _ hk => hk.2) (.int .i64 ((rd_T24 l0 x56_1).f1))) (fun _ hk => hk.2) (.int .i64 ((rd_T24 l0 x56_1).f2))) (fun _ hk => hk.2) (.int .i64 ((rd_T24 l0 x56_1).f3))) (fun _ hk => hk.2) (.string ((rd_T24 l0 x56_1).f4))) (fun _ h_ => h_.1))) hb); have n1_ := Aside0.mk (Kd.R_below (by (with_reducible repeat (first | apply Kd.R_alloc | apply Kd.R_drewN | apply Kd.R_drew)); exact (Kd.R_mono (Kd.R_far (p := ⟨gb532, 4, none⟩) (Kd.R_far (p := ⟨gb532, 3, none⟩) (Kd.R_far (p := ⟨gb532, 2, none⟩) (Kd.R_far (p := ⟨gb532, 1, none⟩) (Kd.R_far (p := ⟨gb532, 0, none⟩) (Kd.R_mono HO_9.out (fun k_ hk => (⟨hk, hk.2⟩ : _ ∧ k_ ≠ gb532))) (fun _ hk => hk.2) (.int .i64 ((rd_T24 l0 x56_1).f0))) (fun _ hk => hk.2) (.int .i64 ((rd_T24 l0 x56_1).f1))) (fun _ hk => hk.2) (.int .i64 ((rd_T24 l0 x56_1).f2))) (fun _ hk => hk.2) (.int .i64 ((rd_T24 l0 x56_1).f3))) (fun _ hk => hk.2) (.string ((rd_T24 l0 x56_1).f4))) (fun _ h_ => h_.1))) hb); have n2_ := Aside0.mk (Kd.R_lower ho0 (below_size (by repeat (first | (with_reducible first | exact HB.out | apply below_alloc | apply pw_below_drewN | apply below_drew1 | refine below_set ?_ GE532.out) | exact HB.out)))); have n3_ := Aside0.mk (blk_below (g := gb532) (o := .cells #[.int .i64 ((rd_T24 l0 x56_1).f0), .int .i64 ((rd_T24 l0 x56_1).f1), .int .i64 ((rd_T24 l0 x56_1).f2), .int .i64 ((rd_T24 l0 x56_1).f3), .string ((rd_T24 l0 x56_1).f4)] 24 (0, 0)) (by (with_reducible repeat (first | refine blk_drewN ?_ _ | refine blk_drew ?_ | refine blk_alloc ?_ _)); refine blk_put (cs := #[.int .i64 ((rd_T24 l0 x56_1).f0), .int .i64 ((rd_T24 l0 x56_1).f1), .int .i64 ((rd_T24 l0 x56_1).f2), .int .i64 ((rd_T24 l0 x56_1).f3), .string (⟨#[]⟩ : ByteArray)]) ?_ 4 _ rfl; (with_reducible repeat (first | refine blk_drewN ?_ _ | refine blk_drew ?_ | refine blk_alloc ?_ _)); refine blk_put (cs := #[.int .i64 ((rd_T24 l0 x56_1).f0), .int .i64 ((rd_T24 l0 x56_1).f1), .int .i64 ((rd_T24 l0 x56_1).f2), .int .i64 0, .string (⟨#[]⟩ : ByteArray)]) ?_ 3 _ rfl; (with_reducible repeat (first | refine blk_drewN ?_ _ | refine blk_drew ?_ | refine blk_alloc ?_ _)); refine blk_put (cs := #[.int .i64 ((rd_T24 l0 x56_1).f0), .int .i64 ((rd_T24 l0 x56_1).f1), .int .i64 0, .int .i64 0, .string (⟨#[]⟩ : ByteArray)]) ?_ 2 _ rfl; (with_reducible repeat (first | refine blk_drewN ?_ _ | refine blk_drew ?_ | refine blk_alloc ?_ _)); refine blk_put (cs := #[.int .i64 ((rd_T24 l0 x56_1).f0), .int .i64 0, .int .i64 0, .int .i64 0, .string (⟨#[]⟩ : ByteArray)]) ?_ 1 _ rfl; (with_reducible repeat (first | refine blk_drewN ?_ _ | refine blk_drew ?_ | refine blk_alloc ?_ _)); refine blk_put (cs := #[.int .i64 0, .int .i64 0, .int .i64 0, .int .i64 0, .string (⟨#[]⟩ : ByteArray)]) ?_ 0 _ rfl; (with_reducible repeat (first | refine blk_drewN ?_ _ | refine blk_drew ?_ | refine blk_alloc ?_ _)); exact BK532.out) hb); have n4_ := Aside0.mk (below_step (by repeat (first | (with_reducible first | exact HB.out | apply below_alloc | apply pw_below_drewN | apply below_drew1 | refine below_set ?_ GE532.out) | exact HB.out)) hb); clear HO_7; clear HO_9; clear BK532; clear HB; have HO_7 := n0_; have HO_9 := n1_; have HO536 := n2_; have BK532 := n3_; have HB := n4_; clear n0_ n1_ n2_ n3_ n4_; (try clear hb); (try clear hb2); (try clear hk); (try clear hi); (try clear ho0); obtain ⟨Ao30, co30, eo30⟩ := Kd.R_slice HO536.out; subst eo30) | ((with_reducible refine gate_callee (f := 29) rfl ?_); refine goesL_ (some 71) rfl rfl Try.func29 (by kernel_rfl) rfl #[.slice Ao30 t533.length co30, .int .i64 ((rd_T24 l0 (ji7)).f0)] rfl (by (try simp only [List.map_toArray, List.map_cons, List.map_nil]); first | done | (simp only [hji7]; rfl) | rfl | (simp only [List.length_drop, List.length_take]; rfl)) ?_; (with_reducible refine (formeref10_Has.calls k1 _ _ t533 ((rd_T24 l0 (ji7)).f0) false _ ?side1 ?side2 A20.out).mono ?_); (case side1 => repeat (first | exact (Kd.R_reads' HO536.out).2.2 | (with_reducible refine Kd.C_alloc ?_ _) | (with_reducible refine Kd.C_drewN ?_ _) | (with_reducible refine Kd.C_drew ?_))); (case side2 => exact (Kd.R_reads' HO536.out).2.1); rintro e w' ⟨rfl, ⟨nd, rfl⟩⟩; refine ⟨_, rfl, ?_⟩; have hcz31_0 : w29.cell? ⟨gb532, 0, none⟩ = some (.int .i64 ((rd_T24 l0 x56_1).f0)) := (blk_cell BK532.out 0).trans rfl; have hcz31_1 : w29.cell? ⟨gb532, 1, none⟩ = some (.int .i64 ((rd_T24 l0 x56_1).f1)) := (blk_cell BK532.out 1).trans rfl; have hcz31_2 : w29.cell? ⟨gb532, 2, none⟩ = some (.int .i64 ((rd_T24 l0 x56_1).f2)) := (blk_cell BK532.out 2).trans rfl; have hcz31_3 : w29.cell? ⟨gb532, 3, none⟩ = some (.int .i64 ((rd_T24 l0 x56_1).f3)) := (blk_cell BK532.out 3).trans rfl; have hcz31_4 : w29.cell? ⟨gb532, 4, none⟩ = some (.string ((rd_T24 l0 x56_1).f4)) := (blk_cell BK532.out 4).trans rfl; have hfz31_0 := blk_frozen BK532.out 0; have hfz31_1 := blk_frozen BK532.out 1; have hfz31_2 := blk_frozen BK532.out 2; have hfz31_3 := blk_frozen BK532.out 3; have hfz31_4 := blk_frozen BK532.out 4) | ((with_reducible refine gate_builtin (b := .append) (xs := #[.tmp 73, .tmp 75]) rfl ?_); (try (refine gate_guard (by rfl) ?_; dsimp only)); at_builtin; refine Kd.R_append k24 (w0 := w) w.heap.size rfl (.tmp 73) (.tmp 75) 22 24 (.agg #[(.int .i64 0), (.int .i64 0), (.int .i64 0), (.int .i64 0), (.string ⟨#[]⟩)]) 48 rfl Try.underlying22 info24 rfl (by decide) (by omega) u9 x9_1 (⟨(rd_T24 l0 x56_1).f0, (rd_T24 l0 x56_1).f1, (rd_T24 l0 x56_1).f2, (rd_T24 l0 x56_1).f3, (rd_T24 l0 x56_1).f4⟩ : S24) [.int .i64 ((rd_T24 l0 x56_1).f0), .int .i64 ((rd_T24 l0 x56_1).f1), .int .i64 ((rd_T24 l0 x56_1).f2), .int .i64 ((rd_T24 l0 x56_1).f3), .string ((rd_T24 l0 x56_1).f4)] (fun k_ => some k_ ≠ (v526 : Value).ownBlock ∧ k_ ≠ gb532) (fun _ => False) rfl rfl ?aP (fun _ hk => hk.elim) ?aF ?aO ?aB ?aS ?aL ?_; (case aP => exact k24_mkM _ _ _ (⟨(rd_T24 l0 x56_1).f0, (rd_T24 l0 x56_1).f1, (rd_T24 l0 x56_1).f2, (rd_T24 l0 x56_1).f3, (rd_T24 l0 x56_1).f4⟩ : S24)); (case aB => exact (by repeat (first | (with_reducible first | exact HB.out | apply below_alloc | apply pw_below_drewN | apply below_drew1 | refine below_set ?_ GE532.out) | exact HB.out))); (case aF => exact (fun k_ hk => ⟨Kd.fresh' (Kd.R_lt (by (with_reducible repeat (first | apply Kd.R_alloc | apply Kd.R_drewN | apply Kd.R_drew)); exact HO_7.out)) k_ hk, Kd.freshB (g := gb532) (o := .cells #[.int .i64 ((rd_T24 l0 x56_1).f0), .int .i64 ((rd_T24 l0 x56_1).f1), .int .i64 ((rd_T24 l0 x56_1).f2), .int .i64 ((rd_T24 l0 x56_1).f3), .string ((rd_T24 l0 x56_1).f4)] 24 (0, 0)) (by (with_reducible repeat (first | refine blk_drewN ?_ _ | refine blk_drew ?_ | refine blk_alloc ?_ _)); exact BK532.out) k_ hk⟩)); (case aO => exact (by (with_reducible repeat (first | apply Kd.R_alloc | apply Kd.R_drewN | apply Kd.R_drew)); exact HO_9.out)); (case aS => exact (below_size (by repeat (first | (with_reducible first | exact HB.out | apply below_alloc | apply pw_below_drewN | apply below_drew1 | refine below_set ?_ GE532.out) | exact HB.out)))); (case aL => have := LMc26.out; omega); intro v539 w32 ho hb hg hat; rw [← Ny538.out] at ho; have n0_ := Aside0.mk (Kd.R_after (ok := (fun k_ => k_ ≠ gb532)) (by (with_reducible repeat (first | apply Kd.R_alloc | apply Kd.R_drewN | apply Kd.R_drew)); exact Kd.R_mono HO_7.out (fun _ hk => ⟨hk.2, hk.1⟩)) hg hat); have n1_ := Aside0.mk (blk_grown (g := gb532) (o := .cells #[.int .i64 ((rd_T24 l0 x56_1).f0), .int .i64 ((rd_T24 l0 x56_1).f1), .int .i64 ((rd_T24 l0 x56_1).f2), .int .i64 ((rd_T24 l0 x56_1).f3), .string ((rd_T24 l0 x56_1).f4)] 24 (0, 0)) (by (with_reducible repeat (first | refine blk_drewN ?_ _ | refine blk_drew ?_ | refine blk_alloc ?_ _)); exact BK532.out) hg (Kd.R_away HO_9.out (fun _ hk => hk.2))); have n2_ := Aside0.mk (Kd.R_over' (by (with_reducible repeat (first | apply Kd.R_alloc | apply Kd.R_drewN | apply Kd.R_drew)); exact HO536.out) (Kd.R_typed (by (with_reducible repeat (first | apply Kd.R_alloc | apply Kd.R_drewN | apply Kd.R_drew)); exact HO_9.out)) (by decide) hg); have n3_ := Aside0.mk (hb); have n4_ := Aside0.mk (ho); clear HO_7; clear BK532; clear HO536; clear HB; clear HO_9; have HO_7 := n0_; have BK532 := n1_; have HO536 := n2_; have HB := n3_; have HO540 := n4_; clear n0_ n1_ n2_ n3_ n4_; clear ho hb hg hat))
        go_roundg k1
        case measure => have := HK1.out; omega
        case rel => exact ⟨(y538), (wrap64 (x56_1 + 1)), (by first | rfl | (simp; done) | (simp [*]; done)), H', ⟨by have := HK1.out; omega⟩, ⟨by (with_reducible repeat (first | apply Kd.R_alloc | apply Kd.R_drewN | apply Kd.R_drew)); exact Kd.R_mono HO_7.out (fun _ hk => hk.2)⟩, ⟨by (with_reducible repeat (first | apply Kd.R_alloc | apply Kd.R_drewN | apply Kd.R_drew)); exact Kd.R_mono HO540.out (fun _ hk => hk.1)⟩, ⟨by repeat (first | (with_reducible first | exact HB.out | apply below_alloc | apply pw_below_drewN | apply below_drew1 | refine below_set ?_ GE532.out) | exact HB.out)⟩⟩
      ·rw [if_neg c15] at H
       have c15b0 : decide (x56_1 < (l0.length : Int)) = false := decide_eq_false c15
       clear c15
       by_cases c33 : t521 = true
       ·subst c33
        have H1 : ((tree_Valid.f t524).bind fun t529 => (if t529 = true then ((formeref10_Same.f k1 t524 x9_1).bind fun t530 => (if t530 = true then (some (decide ((t524.length : Int) < (l0.length : Int)))) else (none))) else (none))) = some r := by rw [if_pos rfl] at H; exact H
        clear H
        have H := H1
        clear H1
        replace H := Option.bind_eq_some_iff.mp H
        obtain ⟨t529, A340, H⟩ := H
        try dsimp only at H
        have A34 := Aside0.mk A340
        clear A340
        by_cases c35 : t529 = true
        ·subst c35
         have H1 : ((formeref10_Same.f k1 t524 x9_1).bind fun t530 => (if t530 = true then (some (decide ((t524.length : Int) < (l0.length : Int)))) else (none))) = some r := by rw [if_pos rfl] at H; exact H
         clear H
         have H := H1
         clear H1
         replace H := Option.bind_eq_some_iff.mp H
         obtain ⟨t530, A360, H⟩ := H
         try dsimp only at H
         have A36 := Aside0.mk A360
         clear A360
         by_cases c37 : t530 = true
         ·subst c37
          have H1 : (some (decide ((t524.length : Int) < (l0.length : Int)))) = some r := by rw [if_pos rfl] at H; exact H
          clear H
          have H := H1
          clear H1
          obtain rfl := Option.some.inj H
          obtain ⟨Ao38, co38, eo38⟩ := Kd.R_slice HO_7.out
          subst eo38
          go_wp2_with (first | (go_at_call 13; (with_reducible refine (tree_Valid.calls _ _ t524 true _ ?side1 ?side2 A34.out).mono ?_); (case side1 => repeat (first | exact (Kd.R_reads' HO_7.out).2.2 | (with_reducible refine Kd.C_alloc ?_ _) | (with_reducible refine Kd.C_drewN ?_ _) | (with_reducible refine Kd.C_drew ?_))); (case side2 => exact (Kd.R_reads' HO_7.out).2.1); rintro e w39 ⟨rfl, hb⟩; have n0_ := Aside0.mk (Kd.R_below (by (with_reducible repeat (first | apply Kd.R_alloc | apply Kd.R_drewN | apply Kd.R_drew)); exact HO_7.out) hb); have n1_ := Aside0.mk (Kd.R_below (by (with_reducible repeat (first | apply Kd.R_alloc | apply Kd.R_drewN | apply Kd.R_drew)); exact HO_9.out) hb); have n2_ := Aside0.mk (below_step (by repeat (first | (with_reducible first | exact HB.out | apply below_alloc | apply pw_below_drewN | apply below_drew1) | exact HB.out)) hb); clear HO_7; clear HO_9; clear HB; have HO_7 := n0_; have HO_9 := n1_; have HB := n2_; clear n0_ n1_ n2_; (try clear hb); (try clear hb2); (try clear hk); (try clear hi); obtain ⟨Ao40, co40, eo40⟩ := Kd.R_slice HO_9.out; subst eo40) | (go_at_call 22; (with_reducible refine (formeref10_Same.calls k1 _ _ t524 _ _ x9_1 true _ ?side1 ?side2 ?side3 ?side4 A36.out).mono ?_); (case side1 => repeat (first | exact (Kd.R_reads' HO_7.out).2.2 | (with_reducible refine Kd.C_alloc ?_ _) | (with_reducible refine Kd.C_drewN ?_ _) | (with_reducible refine Kd.C_drew ?_))); (case side2 => exact (Kd.R_reads' HO_7.out).2.1); (case side3 => repeat (first | exact (Kd.R_reads' HO_9.out).2.2 | (with_reducible refine Kd.C_alloc ?_ _) | (with_reducible refine Kd.C_drewN ?_ _) | (with_reducible refine Kd.C_drew ?_))); (case side4 => exact (Kd.R_reads' HO_9.out).2.1); rintro e w' ⟨rfl, ⟨nd, rfl⟩⟩))
          go_ret
          exact ⟨by first | rfl | (simp [errW_none, errW_some] <;> rfl) | (simp only [← hji7]; first | rfl | (simp [errW_none, errW_some] <;> rfl)) | (simp [*, errW_none, errW_some] <;> rfl), by repeat (first | (with_reducible first | exact HB.out | apply below_alloc | apply pw_below_drewN | apply below_drew1) | exact HB.out)⟩
         ·replace c37 := Bool.eq_false_iff.mpr c37
          subst c37
          have H1 : (none) = some r := by rw [if_neg (show ¬ (false = true) by decide)] at H; exact H
          clear H
          have H := H1
          clear H1
          exact absurd H (by simp)
        ·replace c35 := Bool.eq_false_iff.mpr c35
         subst c35
         have H1 : (none) = some r := by rw [if_neg (show ¬ (false = true) by decide)] at H; exact H
         clear H
         have H := H1
         clear H1
         exact absurd H (by simp)
       ·replace c33 := Bool.eq_false_iff.mpr c33
        subst c33
        have H1 : (none) = some r := by rw [if_neg (show ¬ (false = true) by decide)] at H; exact H
        clear H
        have H := H1
        clear H1
        exact absurd H (by simp)
   ·rw [if_neg c11] at H
    have c11b0 : (t525 == 0) = false := beq_eq_false_iff_ne.mpr c11
    have c11b1 : (t525 != 0) = true := bne_iff_ne.mpr c11
    by_cases c41 : t521 = true
    ·subst c41
     have H1 : (if t525 = 24 then (if 0 < (l0.length : Int) then (if ((rd_T24 l0 (ji7)).f0) = ((rd_T24 l0 0).f0) then (some ((t524.length : Int) == 0)) else (none)) else (none)) else (none)) = some r := by rw [if_pos rfl] at H; exact H
     clear H
     have H := H1
     clear H1
     by_cases c42 : t525 = 24
     rotate_left
     ·rw [if_neg c42] at H; exact absurd H (by simp)
     rw [if_pos c42] at H
     have c42b0 : (t525 == 24) = true := beq_iff_eq.mpr c42
     have c42b1 : (t525 != 24) = false := bne_eq_false_iff_eq.mpr c42
     clear c42
     by_cases c43 : 0 < (l0.length : Int)
     rotate_left
     ·rw [if_neg c43] at H; exact absurd H (by simp)
     rw [if_pos c43] at H
     have c43b0 : decide (0 < (l0.length : Int)) = true := decide_eq_true c43
     have c43b1 : decide (0 < l0.length) = true := decide_eq_true (by omega)
     clear c43
     by_cases c44 : ((rd_T24 l0 (ji7)).f0) = ((rd_T24 l0 0).f0)
     rotate_left
     ·rw [if_neg c44] at H; exact absurd H (by simp)
     rw [if_pos c44] at H
     have c44b0 : (((rd_T24 l0 (ji7)).f0) == ((rd_T24 l0 0).f0)) = true := beq_iff_eq.mpr c44
     have c44b1 : (((rd_T24 l0 (ji7)).f0) != ((rd_T24 l0 0).f0)) = false := bne_eq_false_iff_eq.mpr c44
     clear c44
     obtain rfl := Option.some.inj H
     go_enter Try.func7, Try.ntmps7
     go_wp2_with (first | ((with_reducible refine gate_callee (f := 9) rfl ?_); refine goesL_ (some 14) rfl rfl Try.func9 (by kernel_rfl) rfl #[] rfl (by (try simp only [List.map_toArray, List.map_cons, List.map_nil]); first | done | rfl | (simp only [List.length_drop, List.length_take]; rfl)) ?_; (with_reducible refine (formelaw10_head.calls k  true _ A3.out).mono ?_); rintro e w45 ⟨rfl, hb⟩; refine ⟨_, rfl, ?_⟩; have n0_ := Aside0.mk (below_step (by repeat (first | (with_reducible first | exact HB.out | apply below_alloc | apply pw_below_drewN | apply below_drew1) | exact HB.out)) hb); clear HB; have HB := n0_; clear n0_; (try clear hb); (try clear hb2); (try clear hk); (try clear hi)) | ((with_reducible refine gate_callee (f := 27) rfl ?_); refine goesL_ (some 16) rfl rfl Try.func27 (by kernel_rfl) rfl #[.slice A0 l0.length c0] rfl (by (try simp only [List.map_toArray, List.map_cons, List.map_nil]); first | done | rfl | (simp only [List.length_drop, List.length_take]; rfl)) ?_; (with_reducible refine (formelaw10_usable.calls k _ _ l0 true _ ?side1 ?side2 A4.out).mono ?_); (case side1 => repeat (first | exact (Kd.C_below HR0.out HB.out) | (with_reducible refine Kd.C_alloc ?_ _) | (with_reducible refine Kd.C_drewN ?_ _) | (with_reducible refine Kd.C_drew ?_))); (case side2 => exact HC0.out); rintro e w46 ⟨rfl, hb⟩; refine ⟨_, rfl, ?_⟩; have n0_ := Aside0.mk (below_step (by repeat (first | (with_reducible first | exact HB.out | apply below_alloc | apply pw_below_drewN | apply below_drew1) | exact HB.out)) hb); clear HB; have HB := n0_; clear n0_; (try clear hb); (try clear hb2); (try clear hk); (try clear hi); have p523 : 0 ≤ ((ji7) : Int) := of_decide_eq_true (by first | (with_reducible assumption) | assumption); have q523 : (ji7) < (l0.length : Int) := of_decide_eq_true (by first | (with_reducible assumption) | assumption); obtain ⟨ad523, e523, hx523_0, hx523_1, hx523_2, hx523_3, hx523_4⟩ := at_T24 HR0.out (ji7) p523 q523; cases e523; replace hx523_0 := (HB.out.cell (World.block_lt_of_cell? w _ hx523_0)).trans hx523_0; replace hx523_1 := (HB.out.cell (World.block_lt_of_cell? w _ hx523_1)).trans hx523_1; replace hx523_2 := (HB.out.cell (World.block_lt_of_cell? w _ hx523_2)).trans hx523_2; replace hx523_3 := (HB.out.cell (World.block_lt_of_cell? w _ hx523_3)).trans hx523_3; replace hx523_4 := (HB.out.cell (World.block_lt_of_cell? w _ hx523_4)).trans hx523_4; replace p523 := eq_true p523; replace q523 := eq_true q523) | ((with_reducible refine gate_callee (f := 23) rfl ?_); refine goesL_ (some 31) rfl rfl Try.func23 (by kernel_rfl) rfl #[.slice (some ad523) l0.length c0, .int .i64 ((rd_T24 l0 (ji7)).f0)] rfl (by (try simp only [List.map_toArray, List.map_cons, List.map_nil]); first | done | (simp only [hji7]; rfl) | rfl | (simp only [List.length_drop, List.length_take]; rfl)) ?_; (with_reducible refine (tree_Remove.calls _ _ l0 ((rd_T24 l0 (ji7)).f0) t524 t525 _ ?side1 ?side2 A10.out).mono ?_); (case side1 => repeat (first | exact (Kd.C_below HR0.out HB.out) | (with_reducible refine Kd.C_alloc ?_ _) | (with_reducible refine Kd.C_drewN ?_ _) | (with_reducible refine Kd.C_drew ?_))); (case side2 => exact HC0.out); rintro e w47 ⟨v526, rfl, ho0, hb⟩; refine ⟨_, rfl, ?_⟩; have n0_ := Aside0.mk (Kd.R_lower ho0 (below_size (by repeat (first | (with_reducible first | exact HB.out | apply below_alloc | apply pw_below_drewN | apply below_drew1) | exact HB.out)))); have n1_ := Aside0.mk (below_step (by repeat (first | (with_reducible first | exact HB.out | apply below_alloc | apply pw_below_drewN | apply below_drew1) | exact HB.out)) hb); clear HB; have HO527 := n0_; have HB := n1_; clear n0_ n1_; (try clear hb); (try clear hb2); (try clear hk); (try clear hi); (try clear ho0); have p528 : 0 ≤ (0 : Int) := (by omega); have q528 : 0 < (l0.length : Int) := of_decide_eq_true (by first | (with_reducible assumption) | assumption); obtain ⟨ad528, e528, hx528_0, hx528_1, hx528_2, hx528_3, hx528_4⟩ := at_T24 HR0.out 0 p528 q528; obtain rfl : ad523 = ad528 := (by injection e528); have qi528 : (0 < l0.length) = True := eq_true (by omega); (try rw [show ((0 : Int)).toNat = 0 from rfl] at hx528_0); (try rw [show 0 * 5 = 0 from rfl] at hx528_0); (try rw [Addr.add_zero'] at hx528_0); (try rw [show ((0 : Int)).toNat = 0 from rfl] at hx528_1); (try rw [show 0 * 5 = 0 from rfl] at hx528_1); (try rw [Addr.add_zero'] at hx528_1); (try rw [show ((0 : Int)).toNat = 0 from rfl] at hx528_2); (try rw [show 0 * 5 = 0 from rfl] at hx528_2); (try rw [Addr.add_zero'] at hx528_2); (try rw [show ((0 : Int)).toNat = 0 from rfl] at hx528_3); (try rw [show 0 * 5 = 0 from rfl] at hx528_3); (try rw [Addr.add_zero'] at hx528_3); (try rw [show ((0 : Int)).toNat = 0 from rfl] at hx528_4); (try rw [show 0 * 5 = 0 from rfl] at hx528_4); (try rw [Addr.add_zero'] at hx528_4); replace hx528_0 := (HB.out.cell (World.block_lt_of_cell? w _ hx528_0)).trans hx528_0; replace hx528_1 := (HB.out.cell (World.block_lt_of_cell? w _ hx528_1)).trans hx528_1; replace hx528_2 := (HB.out.cell (World.block_lt_of_cell? w _ hx528_2)).trans hx528_2; replace hx528_3 := (HB.out.cell (World.block_lt_of_cell? w _ hx528_3)).trans hx528_3; replace hx528_4 := (HB.out.cell (World.block_lt_of_cell? w _ hx528_4)).trans hx528_4; replace p528 := eq_true p528; replace q528 := eq_true q528; obtain ⟨Ao48, co48, eo48⟩ := Kd.R_slice HO527.out; subst eo48))
     go_ret
     exact ⟨by first | rfl | (simp [errW_none, errW_some] <;> rfl) | (simp only [← hji7]; first | rfl | (simp [errW_none, errW_some] <;> rfl)) | (simp [*, errW_none, errW_some] <;> rfl), by repeat (first | (with_reducible first | exact HB.out | apply below_alloc | apply pw_below_drewN | apply below_drew1) | exact HB.out)⟩
    ·replace c41 := Bool.eq_false_iff.mpr c41
     subst c41
     have H1 : (none) = some r := by rw [if_neg (show ¬ (false = true) by decide)] at H; exact H
     clear H
     have H := H1
     clear H1
     exact absurd H (by simp)
 ·replace c5 := Bool.eq_false_iff.mpr c5
  subst c5
  have H1 : (some t521) = some r := by rw [if_neg (show ¬ (false = true) by decide)] at H; exact H
  clear H
  have H := H1
  clear H1
  obtain rfl := Option.some.inj H
  go_enter Try.func7, Try.ntmps7
  go_wp2_with (first | ((with_reducible refine gate_callee (f := 9) rfl ?_); refine goesL_ (some 14) rfl rfl Try.func9 (by kernel_rfl) rfl #[] rfl (by (try simp only [List.map_toArray, List.map_cons, List.map_nil]); first | done | rfl | (simp only [List.length_drop, List.length_take]; rfl)) ?_; (with_reducible refine (formelaw10_head.calls k  t521 _ A3.out).mono ?_); rintro e w49 ⟨rfl, hb⟩; refine ⟨_, rfl, ?_⟩; have n0_ := Aside0.mk (below_step (by repeat (first | (with_reducible first | exact HB.out | apply below_alloc | apply pw_below_drewN | apply below_drew1) | exact HB.out)) hb); clear HB; have HB := n0_; clear n0_; (try clear hb); (try clear hb2); (try clear hk); (try clear hi)) | ((with_reducible refine gate_callee (f := 27) rfl ?_); refine goesL_ (some 16) rfl rfl Try.func27 (by kernel_rfl) rfl #[.slice A0 l0.length c0] rfl (by (try simp only [List.map_toArray, List.map_cons, List.map_nil]); first | done | rfl | (simp only [List.length_drop, List.length_take]; rfl)) ?_; (with_reducible refine (formelaw10_usable.calls k _ _ l0 false _ ?side1 ?side2 A4.out).mono ?_); (case side1 => repeat (first | exact (Kd.C_below HR0.out HB.out) | (with_reducible refine Kd.C_alloc ?_ _) | (with_reducible refine Kd.C_drewN ?_ _) | (with_reducible refine Kd.C_drew ?_))); (case side2 => exact HC0.out); rintro e w50 ⟨rfl, hb⟩; refine ⟨_, rfl, ?_⟩; have n0_ := Aside0.mk (below_step (by repeat (first | (with_reducible first | exact HB.out | apply below_alloc | apply pw_below_drewN | apply below_drew1) | exact HB.out)) hb); clear HB; have HB := n0_; clear n0_; (try clear hb); (try clear hb2); (try clear hk); (try clear hi)))
  go_ret
  exact ⟨by first | rfl | (simp [errW_none, errW_some] <;> rfl) | (simp [*, errW_none, errW_some] <;> rfl), by repeat (first | (with_reducible first | exact HB.out | apply below_alloc | apply pw_below_drewN | apply below_drew1) | exact HB.out)⟩
end Go.Proofs.Ytpafhhgoldenoaa.P
end
section
namespace Go.Proofs.Ytpafhhgoldenoaa.P
open Go.RowKit Go.Proofs.YtpafhhgoldenoaaW.PrintWords Go.Proofs.YtpafhhgoldenoaaW.PrintLast Go.Proofs.YtpafhhgoldenoaaW.PrintMore
open Go.Proofs.Ytpafhhgoldenoaa.XM
set_option linter.unusedVariables false
set_option linter.unusedSimpArgs false
variable {l : List S24} {ds : Nat → Int} {D : Places}
theorem Remove_at (hD : placesP l = some D) (T : TreeAt l ds) (P : PAt l ds l.length D) {j : Nat} (hj : j < l.length) :
  tree_Remove.f l (nd l j).f0 = if j = 0 then some ([], 24) else some (selP l (fun m => !inB l (nd l j).f0 m) l.length, 0) := by
 unfold tree_Remove.f
 rw [get_at' hD T P hj]
 simp only [Option.bind_some, if_true]
 by_cases h0 : j = 0
 ·subst h0; simp
 ·rw [if_neg (by omega), if_neg h0]
  unfold tree_split.f
  rw [if_pos T.len, split_sel T _ (T.id hj).1]
  simp
theorem selP_len (l : List S24) (p : Nat → Bool) (i : Nat) : (selP l p i).length ≤ i := by
 have := List.length_filter_le p (List.range i)
 simpa [selP] using this
theorem removes_l0 (hD : placesP l = some D) (T : TreeAt l ds) (P : PAt l ds l.length D) {i : Nat} (hi : i < l.length) (h0 : 0 < i) :
  ∀ (d j : Nat), j ≤ l.length → l.length - j ≤ d →
  Ev (fun k => formelaw10_TreeRemoves.l0 k l true (nd l i).f0 (selP l (fun m => !inB l (nd l i).f0 m) l.length) (selP l (fun m => !inB l (nd l i).f0 m) j) l (l.length : Int) (j : Int)) true := by
 have hlen := T.len
 have last : Ev (fun k => formelaw10_TreeRemoves.l0 k l true (nd l i).f0 (selP l (fun m => !inB l (nd l i).f0 m) l.length) (selP l (fun m => !inB l (nd l i).f0 m) l.length) l (l.length : Int) (l.length : Int)) true := by
  refine Ev.up ?_
  simp only [formelaw10_TreeRemoves.l0]
  obtain ⟨ds', T'⟩ := rest_tree T hi h0
  obtain ⟨D', hD'⟩ := T'.places
  have hless := rest_less T hi
  refine Ev.els (by omega) (Ev.thn trivial (Ev.obind (show tree_Valid.f _ = some true by unfold tree_Valid.f; rw [hD']; rfl) (Ev.thn rfl ?_)))
  refine Ev.bind (refSame _ (by omega)) (Ev.thn rfl (Ev.const ?_))
  simp
  omega
 intro d
 induction d with
 | zero =>
  intro j hj hd
  obtain rfl : j = l.length := by omega
  exact last
 | succ d ih =>
  intro j hj hd
  by_cases hlt : j < l.length
  ·refine Ev.up ?_
   simp only [formelaw10_TreeRemoves.l0]
   refine Ev.thn (by omega) (Ev.thn (by omega) (Ev.thn (by omega) ?_))
   refine Ev.obind (Path_at hD T P hlt) (Ev.thn rfl ?_)
   have hp : (pathP l j).length ≤ 1000000 := by
    have := (path_all T j hlt).1
    have := T.le30 j hlt
    omega
   refine Ev.bind (refHas _ _ hp) ?_
   have key := ih (j + 1) hlt (by omega)
   rw [selP_succ] at key
   rw [w64n j (by omega)]
   by_cases hb : (nd l i).f0 ∈ pathP l j
   ·refine Ev.thn (by simpa using hb) ?_
    rw [if_neg (by simp [inB, hb])] at key
    exact key
   ·refine Ev.els (by simpa using hb) ?_
    rw [if_pos (by simp [inB, hb])] at key
    have hsl := selP_len l (fun m => !inB l (nd l i).f0 m) j
    exact Ev.thn (by omega) key
  ·obtain rfl : j = l.length := by omega
   exact last
theorem removes_pure (l : List S24) (a : Int) (hs : ∀ j, j < l.length → (nd l j).f4.size ≤ 9223372036854775807) (ha : 0 ≤ a ∧ a ≤ 255) : ∃ k, formelaw10_TreeRemoves.f k l a = some true := by
 refine Ev.rounds (g := fun k => formelaw10_TreeRemoves.f k l a) ?_
 unfold formelaw10_TreeRemoves.f
 refine Ev.bind head_true ?_
 rcases usable_cases l hs with h | ⟨h, hl, D, ds, hD, T, P⟩
 ·exact Ev.bind h (Ev.els (by simp) (Ev.now _))
 ·have hpos := T.pos
  obtain ⟨i, hi, hw⟩ := which_of T a ha
  rw [hw]
  refine Ev.bind h (Ev.thn rfl (Ev.els (by omega) (Ev.thn (by omega) (Ev.thn (by omega) ?_))))
  have hR := Remove_at hD T P hi
  by_cases h0 : i = 0
  ·rw [if_pos h0] at hR
   refine Ev.obind hR (Ev.els (by simp) (Ev.thn rfl (Ev.thn rfl (Ev.thn (by omega) (Ev.thn (by rw [h0]; rfl) (Ev.const rfl))))))
  ·rw [if_neg h0] at hR
   refine Ev.obind hR (Ev.thn rfl ?_)
   exact removes_l0 hD T P hi (by omega) l.length 0 (by omega) (by omega)
end Go.Proofs.Ytpafhhgoldenoaa.P
end
section
namespace Go.Proofs.Ytpafhhgoldenoaa.treeRemoves
open Go.ChangeShapes Go.WideShapes Go.ChangeAt Go.RowKit
open Go.ChangeMaps (open_string shut_string)
open Go.Proofs.Ytpafhhgoldenoaa.P
set_option linter.unusedVariables false
set_option maxRecDepth 100000 in
theorem lifted (os : Os) (started : os.Started) (H : Type) (enc : TypeId × Value → H) :
  ReturnsInHanded {} Try.checked os 7 .any (Rows.treeRemovesSpec.pre6 enc Try.prog Try.f7 Rows.treeRemovesRow.domain false) (Rows.treeRemovesSpec.post enc Try.prog Try.f7 false true false false) := by
 refine returnsInHanded_of_change_sized (C := Try.checked) own started (by kernel_rfl) Try.func7
  (ChangeSpec.witness6 (enc := enc) (C := Try.checked) false ⟨#[], #[.slice none 0 0, .int .u8 0], []⟩ 8 (by kernel_rfl) (by kernel_rfl) (by kernel_rfl) (by kernel_rfl)) ?_
 intro W base args ds gs before hval0 hW hcnd hsz0 _
 have hval : ∀ (j : Nat) t v, Try.f7.params[j]? = some t → args[j]? = some v → Value.okWide Try.prog W .any base t v := hval0
 have hW' := hW
 obtain ⟨p, q, hA0, hV, rfl, hfz, hnd⟩ := hW
 have hA : DataW.TrodAll enc Try.prog W 0 (fun _ => true) true Try.f7.params.toList args.toList ds p := hA0
 rw [Try.params7] at hA hval
 obtain ⟨v0, vs0, d0, ds0, p0, q0, hargs, rfl, rfl, h0, r0⟩ := trodAll_cons hA
 obtain ⟨v1, vs1, d1, ds1, p1, q1, rfl, rfl, rfl, h1, r1⟩ := trodAll_cons r0
 obtain ⟨rfl, rfl, rfl⟩ := trodAll_nil r1
 obtain rfl : args = #[v0, v1] := by cases args; simp_all
 obtain ⟨rfl, rfl⟩ := trodVars_none hV
 have k0 := h0
 have lt0 : ∀ x ∈ p0, x.block < W.heap.size := by obtain ⟨m, hm⟩ := k0; exact DataW.trod_lt m _ _ _ hm
 obtain ⟨A0, l0, c0, rfl, hr0, hc0, hs0⟩ := open_nodes (hval 0 22 v0 rfl rfl) h0
 obtain ⟨a1, rfl, rfl, rfl, w1⟩ := open_int Try.underlying5 (hval 1 5 v1 rfl rfl) h1
 have b1 : 0 ≤ a1 ∧ a1 ≤ 255 := u8_wf w1
 clear hA0 hval0 hsz0
 obtain ⟨k, h⟩ := removes_pure l0 a1 (fun j hj => hs0 _ (by simp [rd_T24, hj])) b1
 refine (formelaw10_TreeRemoves.calls k A0 c0 l0 a1 true W hr0 hc0 h).mono fun e W' ⟨he, bel⟩ => ?_
 subst he
 exact ⟨_, rfl, _, _, _, [], _, [], hW', trodAll_mk1 (shut_bool Try.underlying4 _), (trodAll_cons_mk (Below.trod laidOut (by kernel_rfl) (of_decide_eq_true (by kernel_rfl)) k0 bel lt0) (trodAll_cons_mk (shut_int Try.underlying5 w1) trodAll_mk0)), rfl, bel.frame _, fun h => by cases h⟩
theorem over : Rows.treeRemovesRow.holds Try.pinned (OpenSpec.ofChange Rows.treeRemovesSpec) :=
 OpenClaim.holds_of_wide 7 Try.f7 rfl rfl rfl rfl rfl rfl rfl ⟨rfl, rfl, rfl, rfl, rfl⟩ rfl rfl rfl rfl rfl (by kernel_rfl) Try.func7 (by kernel_rfl)
  (of_decide_eq_true (by kernel_rfl)) (by unfold Func.isWrapper; first | (rw [if_pos (by decide +kernel)]; kernel_rfl) | (rw [if_neg (by decide +kernel)]; exact ⟨rfl, rfl⟩))
  (fun os started H enc _ => lifted os started H enc)
theorem proved : Rows.TreeRemovesSaid := over
#print axioms proved
end Go.Proofs.Ytpafhhgoldenoaa.treeRemoves
namespace Go.Proofs.Ytpafhhgoldenoaa
theorem treeRemoves_holds : Rows.TreeRemovesSaid := treeRemoves.proved
end Go.Proofs.Ytpafhhgoldenoaa
end

import Derived.Test.YtpafhhgoldenoaaMoves4
/- What Move returns is a tree with the same nodes, but for the parent of the moved one, at its place; the children of all other nodes are the same: TreeMoves returns true for every list and all numbers and leaves the list as it was. -/
section
namespace Go.Proofs.Ytpafhhgoldenoaa.P
open Go.RowKit Go.Proofs.YtpafhhgoldenoaaW.PrintWords Go.Proofs.YtpafhhgoldenoaaW.PrintLast Go.Proofs.YtpafhhgoldenoaaW.PrintMore
attribute [local go_sem] max2_int min2_int max_two min_two max_three min_three max_four min_four
set_option linter.unusedVariables false
set_option linter.unusedSimpArgs false
attribute [local go_sem high] eqA24
mutual
def formelaw10_TreeMoves.j0 : Nat → List (S24) → Int → Int → Int → Bool → List (S24) → Bool → Option (Bool)
 | 0, _, _, _, _, _, _, _ => none
 | k + 1, x0, x1, x2, x3, x9, x10, x52 => if x52 = true then (none) else (formelaw10_TreeMoves.l0 k x0 x1 x2 x3 x9 x10 x0 (x0.length : Int) 0)
def formelaw10_TreeMoves.l0 : Nat → List (S24) → Int → Int → Int → Bool → List (S24) → List (S24) → Int → Int → Option (Bool)
 | 0, _, _, _, _, _, _, _, _, _ => none
 | k + 1, x0, x1, x2, x3, x9, x10, x53, x54, x55 => if x55 < x54 then (if 0 ≤ x55 then (if x55 < (x53.length : Int) then ((tree_Find.f x10 ((rd_T24 x53 x55).f0)).bind fun bt550 => (if bt550.2.2 = 0 then (if bt550.2.1 = true then (if bt550.1 < 0 then (formelaw10_TreeMoves.j2 k x0 x1 x2 x3 x9 x10 bt550.1 x53 x54 x55 true ((rd_T24 x53 x55).f0) ((rd_T24 x53 x55).f1) ((rd_T24 x53 x55).f2) ((rd_T24 x53 x55).f3) ((rd_T24 x53 x55).f4)) else (formelaw10_TreeMoves.j2 k x0 x1 x2 x3 x9 x10 bt550.1 x53 x54 x55 (decide (bt550.1 ≥ (x10.length : Int))) ((rd_T24 x53 x55).f0) ((rd_T24 x53 x55).f1) ((rd_T24 x53 x55).f2) ((rd_T24 x53 x55).f3) ((rd_T24 x53 x55).f4))) else (formelaw10_TreeMoves.j2 k x0 x1 x2 x3 x9 x10 bt550.1 x53 x54 x55 true ((rd_T24 x53 x55).f0) ((rd_T24 x53 x55).f1) ((rd_T24 x53 x55).f2) ((rd_T24 x53 x55).f3) ((rd_T24 x53 x55).f4))) else (formelaw10_TreeMoves.j2 k x0 x1 x2 x3 x9 x10 bt550.1 x53 x54 x55 true ((rd_T24 x53 x55).f0) ((rd_T24 x53 x55).f1) ((rd_T24 x53 x55).f2) ((rd_T24 x53 x55).f3) ((rd_T24 x53 x55).f4)))) else (none)) else (none)) else ((tree_Kids.f k x10 x2).bind fun bt555 => (if bt555.2 = 0 then (formelaw10_TreeMoves.j3 k x0 x1 x3 x9 x10 bt555.1 ((bt555.1.length : Int) == 0)) else (formelaw10_TreeMoves.j3 k x0 x1 x3 x9 x10 bt555.1 true)))
def formelaw10_TreeMoves.j2 : Nat → List (S24) → Int → Int → Int → Bool → List (S24) → Int → List (S24) → Int → Int → Bool → Int → Int → Int → Int → ByteArray → Option (Bool)
 | 0, _, _, _, _, _, _, _, _, _, _, _, _, _, _, _, _ => none
 | k + 1, x0, x1, x2, x3, x9, x10, x14, x53, x54, x55, x82, x550000, x550001, x550002, x550003, x550004 => if x82 = true then (none) else (if x550000 = x1 then (if x9 = true then (if 0 ≤ x14 then (if x14 < (x10.length : Int) then (formelaw10_TreeMoves.l0 k x0 x1 x2 x3 (((rd_T24 x10 x14).f0) == x550000 && (((rd_T24 x10 x14).f1) == x2 && (((rd_T24 x10 x14).f2) == x550002 && (((rd_T24 x10 x14).f3) == x550003 && ((((rd_T24 x10 x14).f4).toList) == x550004.toList))))) x10 x53 x54 (wrap64 (x55 + 1))) else (none)) else (none)) else (formelaw10_TreeMoves.l0 k x0 x1 x2 x3 false x10 x53 x54 (wrap64 (x55 + 1)))) else (if x9 = true then (if 0 ≤ x14 then (if x14 < (x10.length : Int) then (formelaw10_TreeMoves.l0 k x0 x1 x2 x3 (((rd_T24 x10 x14).f0) == x550000 && (((rd_T24 x10 x14).f1) == x550001 && (((rd_T24 x10 x14).f2) == x550002 && (((rd_T24 x10 x14).f3) == x550003 && ((((rd_T24 x10 x14).f4).toList) == x550004.toList))))) x10 x53 x54 (wrap64 (x55 + 1))) else (none)) else (none)) else (formelaw10_TreeMoves.l0 k x0 x1 x2 x3 false x10 x53 x54 (wrap64 (x55 + 1)))))
def formelaw10_TreeMoves.j3 : Nat → List (S24) → Int → Int → Bool → List (S24) → List Int → Bool → Option (Bool)
 | 0, _, _, _, _, _, _, _ => none
 | k + 1, x0, x1, x3, x9, x10, x17, x111 => if x111 = true then (none) else (formelaw10_TreeMoves.l1 k x0 x1 x3 x9 x10 x17 (wrap64 ((x17.length : Int) - 1)) x17 (x17.length : Int) 0)
def formelaw10_TreeMoves.l1 : Nat → List (S24) → Int → Int → Bool → List (S24) → List Int → Int → List Int → Int → Int → Option (Bool)
 | 0, _, _, _, _, _, _, _, _, _, _ => none
 | k + 1, x0, x1, x3, x9, x10, x17, x19, x115, x116, x117 => if x117 < x116 then (if 0 ≤ x117 then (if x117 < (x115.length : Int) then (if (rd x115 x117) = x3 then (formelaw10_TreeMoves.l1 k x0 x1 x3 x9 x10 x17 (wrap64 (x117 - 1)) x115 x116 (wrap64 (x117 + 1))) else (formelaw10_TreeMoves.l1 k x0 x1 x3 x9 x10 x17 x19 x115 x116 (wrap64 (x117 + 1)))) else (none)) else (none)) else (if x9 = true then (if x19 ≥ 0 then (if 0 ≤ x19 then (if x19 < (x17.length : Int) then (if (rd x17 x19) = x1 then ((formelaw10_alike.f x0 x10 x1).bind fun t561 => (some t561)) else (none)) else (none)) else (none)) else (none)) else (none))
end
def formelaw10_TreeMoves.f (k : Nat) (l0 : List (S24)) (a1 : Int) (a2 : Int) (a3 : Int) : Option (Bool) := (formelaw10_head.f k).bind fun t541 => ((formelaw10_usable.f k l0).bind fun t542 => (if t542 = true then ((tree_Move.f l0 a1 a2 a3).bind fun bt543 => (if bt543.2 = 0 then (if (bt543.1.length : Int) = (l0.length : Int) then ((tree_Valid.f bt543.1).bind fun t547 => (formelaw10_TreeMoves.j0 k l0 a1 a2 a3 t541 bt543.1 (!t547))) else (formelaw10_TreeMoves.j0 k l0 a1 a2 a3 t541 bt543.1 true)) else (if t541 = true then (some ((bt543.1.length : Int) == 0)) else (none)))) else (some t541)))
set_option maxHeartbeats 8000000 in
set_option maxRecDepth 100000 in
theorem formelaw10_TreeMoves.calls (k : Nat) (A0 : Option Addr) (c0 : Nat) (l0 : List (S24)) (a1 : Int) (a2 : Int) (a3 : Int) (r : Bool) (w : World) (hr0 : Kd.C k24 w A0 l0.length l0) (hc0 : l0.length ≤ c0) (h : formelaw10_TreeMoves.f k l0 a1 a2 a3 = some r) :
  Calls Try.prog 8 #[.slice A0 l0.length c0, .int .i64 a1, .int .i64 a2, .int .i64 a3] w fun e w' => e = .returned (.bool r) ∧ Below w.heap.size w w' := by
 have hu24 := Try.underlying24
 have HR0 := Aside0.mk hr0
 have HC0 := Aside0.mk hc0
 clear hr0 hc0
 have HB := Aside0.mk (Below.refl w.heap.size w)
 have H : ((formelaw10_head.f k).bind fun t541 => ((formelaw10_usable.f k l0).bind fun t542 => (if t542 = true then ((tree_Move.f l0 a1 a2 a3).bind fun bt543 => (if bt543.2 = 0 then (if (bt543.1.length : Int) = (l0.length : Int) then ((tree_Valid.f bt543.1).bind fun t547 => (formelaw10_TreeMoves.j0 k l0 a1 a2 a3 t541 bt543.1 (!t547))) else (formelaw10_TreeMoves.j0 k l0 a1 a2 a3 t541 bt543.1 true)) else (if t541 = true then (some ((bt543.1.length : Int) == 0)) else (none)))) else (some t541)))) = some r := h
 clear h
 replace H := Option.bind_eq_some_iff.mp H
 obtain ⟨t541, A50, H⟩ := H
 try dsimp only at H
 have A5 := Aside0.mk A50
 clear A50
 replace H := Option.bind_eq_some_iff.mp H
 obtain ⟨t542, A60, H⟩ := H
 try dsimp only at H
 have A6 := Aside0.mk A60
 clear A60
 by_cases c7 : t542 = true
 ·subst c7
  have H1 : ((tree_Move.f l0 a1 a2 a3).bind fun bt543 => (if bt543.2 = 0 then (if (bt543.1.length : Int) = (l0.length : Int) then ((tree_Valid.f bt543.1).bind fun t547 => (formelaw10_TreeMoves.j0 k l0 a1 a2 a3 t541 bt543.1 (!t547))) else (formelaw10_TreeMoves.j0 k l0 a1 a2 a3 t541 bt543.1 true)) else (if t541 = true then (some ((bt543.1.length : Int) == 0)) else (none)))) = some r := by rw [if_pos rfl] at H; exact H
  clear H
  have H := H1
  clear H1
  replace H := Option.bind_eq_some_iff.mp H
  obtain ⟨⟨t543, t544⟩, A80, H⟩ := H
  try dsimp only at H
  have A8 := Aside0.mk A80
  clear A80
  by_cases c9 : t544 = 0
  ·rw [if_pos c9] at H
   have c9b0 : (t544 == 0) = true := beq_iff_eq.mpr c9
   have c9b1 : (t544 != 0) = false := bne_eq_false_iff_eq.mpr c9
   clear c9
   have HC10 := Aside0.mk H
   clear H
   go_enter Try.func8, Try.ntmps8
   go_upto_region 7 with (first | (go_at_call 9; (with_reducible refine (formelaw10_head.calls k  t541 _ A5.out).mono ?_); rintro e w11 ⟨rfl, hb⟩; have n0_ := Aside0.mk (below_step z1_ hb); clear HB; have HB := n0_; clear n0_; (try clear hb); (try clear hb2); (try clear hk); (try clear hi)) | (go_at_call 27; (with_reducible refine (formelaw10_usable.calls k _ _ l0 true _ ?side1 ?side2 A6.out).mono ?_); (case side1 => exact z4_); (case side2 => exact HC0.out); rintro e w12 ⟨rfl, hb⟩; have n0_ := Aside0.mk (below_step z1_ hb); clear HB; have HB := n0_; clear n0_; (try clear hb); (try clear hb2); (try clear hk); (try clear hi)) | (go_at_call 25; (with_reducible refine (tree_Move.calls _ _ l0 a1 a2 a3 t543 t544 _ ?side1 ?side2 A8.out).mono ?_); (case side1 => exact z4_); (case side2 => exact HC0.out); rintro e w13 ⟨v545, rfl, ho0, hb⟩; have n0_ := Aside0.mk (Kd.R_lower ho0 (below_size z1_)); have n1_ := Aside0.mk (below_step z1_ hb); clear HB; have HO546 := n0_; have HB := n1_; clear n0_ n1_; (try clear hb); (try clear hb2); (try clear hk); (try clear hi); (try clear ho0)))
   repeat (go_quiet (first | (go_at_call 9; (with_reducible refine (formelaw10_head.calls k  t541 _ A5.out).mono ?_); rintro e w11 ⟨rfl, hb⟩; have n0_ := Aside0.mk (below_step z1_ hb); clear HB; have HB := n0_; clear n0_; (try clear hb); (try clear hb2); (try clear hk); (try clear hi)) | (go_at_call 27; (with_reducible refine (formelaw10_usable.calls k _ _ l0 true _ ?side1 ?side2 A6.out).mono ?_); (case side1 => exact z4_); (case side2 => exact HC0.out); rintro e w12 ⟨rfl, hb⟩; have n0_ := Aside0.mk (below_step z1_ hb); clear HB; have HB := n0_; clear n0_; (try clear hb); (try clear hb2); (try clear hk); (try clear hi)) | (go_at_call 25; (with_reducible refine (tree_Move.calls _ _ l0 a1 a2 a3 t543 t544 _ ?side1 ?side2 A8.out).mono ?_); (case side1 => exact z4_); (case side2 => exact HC0.out); rintro e w13 ⟨v545, rfl, ho0, hb⟩; have n0_ := Aside0.mk (Kd.R_lower ho0 (below_size z1_)); have n1_ := Aside0.mk (below_step z1_ hb); clear HB; have HO546 := n0_; have HB := n1_; clear n0_ n1_; (try clear hb); (try clear hb2); (try clear hk); (try clear hi); (try clear ho0))); go_upto_region 7 with (first | (go_at_call 9; (with_reducible refine (formelaw10_head.calls k  t541 _ A5.out).mono ?_); rintro e w11 ⟨rfl, hb⟩; have n0_ := Aside0.mk (below_step z1_ hb); clear HB; have HB := n0_; clear n0_; (try clear hb); (try clear hb2); (try clear hk); (try clear hi)) | (go_at_call 27; (with_reducible refine (formelaw10_usable.calls k _ _ l0 true _ ?side1 ?side2 A6.out).mono ?_); (case side1 => exact z4_); (case side2 => exact HC0.out); rintro e w12 ⟨rfl, hb⟩; have n0_ := Aside0.mk (below_step z1_ hb); clear HB; have HB := n0_; clear n0_; (try clear hb); (try clear hb2); (try clear hk); (try clear hi)) | (go_at_call 25; (with_reducible refine (tree_Move.calls _ _ l0 a1 a2 a3 t543 t544 _ ?side1 ?side2 A8.out).mono ?_); (case side1 => exact z4_); (case side2 => exact HC0.out); rintro e w13 ⟨v545, rfl, ho0, hb⟩; have n0_ := Aside0.mk (Kd.R_lower ho0 (below_size z1_)); have n1_ := Aside0.mk (below_step z1_ hb); clear HB; have HO546 := n0_; have HB := n1_; clear n0_ n1_; (try clear hb); (try clear hb2); (try clear hk); (try clear hi); (try clear ho0))))
   (try simp only [Act.put, List.setIfInBounds_toArray, List.set_cons_zero, List.set_cons_succ])
   go_cut [52] (fun v52 wc => ∃ (kq : Nat) (x52_9 : Bool), v52 = .bool x52_9 ∧ Aside0 (formelaw10_TreeMoves.j0 kq l0 a1 a2 a3 t541 t543 x52_9 = some r) ∧ Aside0 (kq ≤ k) ∧ Aside0 (Kd.R k24 24 wc w.heap.size (fun _ => True) v545 t543) ∧ Aside0 (Below w.heap.size w wc))
   case first =>
    have H := HC10.out
    clear HC10
    by_cases c14 : (t543.length : Int) = (l0.length : Int)
    ·rw [if_pos c14] at H
     have c14b0 : ((t543.length : Int) == (l0.length : Int)) = true := beq_iff_eq.mpr c14
     have c14b1 : ((t543.length : Int) != (l0.length : Int)) = false := bne_eq_false_iff_eq.mpr c14
     have c14b2 : (t543.length == l0.length) = true := by first | simpa using c14 | (simp at c14 ⊢; omega)
     clear c14
     (first | rw [c14b0] | (simp only [i64_w, i32_w]; rw [c14b0]) | skip)
     replace H := Option.bind_eq_some_iff.mp H
     obtain ⟨t547, A150, H⟩ := H
     try dsimp only at H
     have A15 := Aside0.mk A150
     clear A150
     have H' := Aside0.mk H
     clear H
     obtain ⟨Ao16, co16, eo16⟩ := Kd.R_slice HO546.out
     subst eo16
     go_wp2_with (first | (go_at_call 13; (with_reducible refine (tree_Valid.calls _ _ t543 t547 _ ?side1 ?side2 A15.out).mono ?_); (case side1 => exact z34_); (case side2 => exact (Kd.R_reads' HO546.out).2.1); rintro e w17 ⟨rfl, hb⟩; have n0_ := Aside0.mk (Kd.R_below (by (with_reducible repeat (first | apply Kd.R_alloc | apply Kd.R_drewN | apply Kd.R_drew)); exact HO546.out) hb); have n1_ := Aside0.mk (below_step z1_ hb); clear HO546; clear HB; have HO546 := n0_; have HB := n1_; clear n0_ n1_; (try clear hb); (try clear hb2); (try clear hk); (try clear hi)))
     repeat (go_quiet (first | (go_at_call 13; (with_reducible refine (tree_Valid.calls _ _ t543 t547 _ ?side1 ?side2 A15.out).mono ?_); (case side1 => exact z34_); (case side2 => exact (Kd.R_reads' HO546.out).2.1); rintro e w17 ⟨rfl, hb⟩; have n0_ := Aside0.mk (Kd.R_below (by (with_reducible repeat (first | apply Kd.R_alloc | apply Kd.R_drewN | apply Kd.R_drew)); exact HO546.out) hb); have n1_ := Aside0.mk (below_step z1_ hb); clear HO546; clear HB; have HO546 := n0_; have HB := n1_; clear n0_ n1_; (try clear hb); (try clear hb2); (try clear hk); (try clear hi))); try go_wp2_with (first | (go_at_call 13; (with_reducible refine (tree_Valid.calls _ _ t543 t547 _ ?side1 ?side2 A15.out).mono ?_); (case side1 => exact z34_); (case side2 => exact (Kd.R_reads' HO546.out).2.1); rintro e w17 ⟨rfl, hb⟩; have n0_ := Aside0.mk (Kd.R_below (by (with_reducible repeat (first | apply Kd.R_alloc | apply Kd.R_drewN | apply Kd.R_drew)); exact HO546.out) hb); have n1_ := Aside0.mk (below_step z1_ hb); clear HO546; clear HB; have HO546 := n0_; have HB := n1_; clear n0_ n1_; (try clear hb); (try clear hb2); (try clear hk); (try clear hi))))
     go_meet
     case rel => exact ⟨_, (!t547), z8_, H', ⟨by first | omega | exact Nat.le_refl _⟩, ⟨by (with_reducible repeat (first | apply Kd.R_alloc | apply Kd.R_drewN | apply Kd.R_drew)); exact HO546.out⟩, ⟨by repeat (first | (with_reducible first | exact HB.out | apply below_alloc | apply pw_below_drewN | apply below_drew1) | exact HB.out)⟩⟩
    ·rw [if_neg c14] at H
     have c14b0 : ((t543.length : Int) == (l0.length : Int)) = false := beq_eq_false_iff_ne.mpr c14
     have c14b1 : ((t543.length : Int) != (l0.length : Int)) = true := bne_iff_ne.mpr c14
     have c14b2 : (t543.length == l0.length) = false := by first | simpa using c14 | (simp at c14 ⊢; omega)
     (first | rw [c14b0] | (simp only [i64_w, i32_w]; rw [c14b0]) | skip)
     have H' := Aside0.mk H
     clear H
     obtain ⟨Ao18, co18, eo18⟩ := Kd.R_slice HO546.out
     subst eo18
     go_wp2
     repeat (go_quiet (fail); try go_wp2)
     go_meet
     case rel => exact ⟨_, (true), z8_, H', ⟨by first | omega | exact Nat.le_refl _⟩, ⟨by (with_reducible repeat (first | apply Kd.R_alloc | apply Kd.R_drewN | apply Kd.R_drew)); exact HO546.out⟩, ⟨by repeat (first | (with_reducible first | exact HB.out | apply below_alloc | apply pw_below_drewN | apply below_drew1) | exact HB.out)⟩⟩
   case rest =>
    clear HC10
    try clear c1
    try clear p2
    try clear c7
    try clear c8
    try clear c9
    try clear c9b0
    try clear c9b1
    try clear c14
    try clear c14b0
    try clear c14b1
    try clear c14b2
    obtain ⟨kq, x52_9, rfl, HA, HJ9, HO_10, HB⟩ := hcut
    cases kq with
    | zero => exact absurd HA.out (by simp [formelaw10_TreeMoves.j0])
    | succ kj9 =>
     have H := HA.out
     clear HA
     simp only [formelaw10_TreeMoves.j0] at H
     by_cases c19 : x52_9 = true
     ·subst c19
      have H1 : (none) = some r := by rw [if_pos rfl] at H; exact H
      clear H
      have H := H1
      clear H1
      exact absurd H (by simp)
     ·replace c19 := Bool.eq_false_iff.mpr c19
      subst c19
      have H1 : (formelaw10_TreeMoves.l0 kj9 l0 a1 a2 a3 t541 t543 l0 (l0.length : Int) 0) = some r := by rw [if_neg (show ¬ (false = true) by decide)] at H; exact H
      clear H
      have H := H1
      clear H1
      have H' := Aside0.mk H
      clear H
      go_wp2
      repeat (go_quiet (fail); try go_wp2)
      go_loopg [9, 55] kj9 (fun kq v9 v55 w' => ∃ (x9_2 : Bool) (x55_2 : Int), v9 = .bool x9_2 ∧ v55 = .int .i64 x55_2 ∧ Aside0 (formelaw10_TreeMoves.l0 kq l0 a1 a2 a3 x9_2 t543 l0 (l0.length : Int) x55_2 = some r) ∧ Aside0 (kq ≤ kj9) ∧ Aside0 (Kd.R k24 24 w' w.heap.size (fun _ => True) v545 t543) ∧ Aside0 (Below w.heap.size w w'))
      case atStart => exact ⟨(t541), (0), z8_, z8_, H', ⟨Nat.le_refl _⟩, ⟨by (with_reducible repeat (first | apply Kd.R_alloc | apply Kd.R_drewN | apply Kd.R_drew)); exact HO_10.out⟩, ⟨by repeat (first | (with_reducible first | exact HB.out | apply below_alloc | apply pw_below_drewN | apply below_drew1) | exact HB.out)⟩⟩
      case round =>
       clear H'
       try clear c1
       try clear p2
       try clear c7
       try clear c8
       try clear c9
       try clear c9b0
       try clear c9b1
       try clear c14
       try clear c14b0
       try clear c14b1
       try clear c14b2
       try clear c19
       try clear p2
       obtain ⟨x9_2, x55_2, rfl, rfl, HA, HK2, HO_10, HB⟩ := hrel
       cases gk with
       | zero => exact absurd HA.out (by simp [formelaw10_TreeMoves.l0])
       | succ k2 =>
        have H := HA.out
        clear HA
        simp only [formelaw10_TreeMoves.l0] at H
        by_cases c20 : x55_2 < (l0.length : Int)
        ·rw [if_pos c20] at H
         have c20b0 : decide (x55_2 < (l0.length : Int)) = true := decide_eq_true c20
         clear c20
         by_cases c21 : 0 ≤ x55_2
         rotate_left
         ·rw [if_neg c21] at H; exact absurd H (by simp)
         rw [if_pos c21] at H
         have c21b0 : decide (0 ≤ x55_2) = true := decide_eq_true c21
         clear c21
         by_cases c22 : x55_2 < (l0.length : Int)
         rotate_left
         ·rw [if_neg c22] at H; exact absurd H (by simp)
         rw [if_pos c22] at H
         have c22b0 : decide (x55_2 < (l0.length : Int)) = true := decide_eq_true c22
         clear c22
         replace H := Option.bind_eq_some_iff.mp H
         obtain ⟨⟨t550, t551, t552⟩, A230, H⟩ := H
         try dsimp only at H
         have A23 := Aside0.mk A230
         clear A230
         have HC24 := Aside0.mk H
         clear H
         have p548 : 0 ≤ (x55_2 : Int) := of_decide_eq_true z3_
         have q548 : x55_2 < (l0.length : Int) := of_decide_eq_true z3_
         obtain ⟨ad548, e548, hx548_0, hx548_1, hx548_2, hx548_3, hx548_4⟩ := at_T24 HR0.out x55_2 p548 q548
         cases e548
         replace hx548_0 := hbc_ HB.out hx548_0
         replace hx548_1 := hbc_ HB.out hx548_1
         replace hx548_2 := hbc_ HB.out hx548_2
         replace hx548_3 := hbc_ HB.out hx548_3
         replace hx548_4 := hbc_ HB.out hx548_4
         replace p548 := eq_true p548
         replace q548 := eq_true q548
         go_upto_region 13 with (first | ((with_reducible refine gate_dst (N := 13) rfl ?_); (try (refine gate_guard (by rfl) ?_; dsimp only)); refine box_event ?hg (N := 13) ?hd (cs := #[.int .i64 0, .int .i64 0, .int .i64 0, .int .i64 0, .string (⟨#[]⟩ : ByteArray)]) (t := 24) ?hr ?_; (case hd => rfl); (case hg => rfl); (case hr => exact z12_); intro gb549 hg w25 hbox hb; have n0_ := Aside0.mk (Kd.R_below (Kd.R_elderB z29_ gb549 (Nat.le_of_eq hg.symm)) hb); have n1_ := Aside0.mk (below_step z1_ hb); have n2_ := Aside0.mk (hbox); have n3_ := Aside0.mk ((by rw [hg]; exact (below_size z1_) : w.heap.size ≤ gb549)); have n4_ := Aside0.mk ((by rw [hg]; exact (below_size z1_) : w.heap.size ≤ gb549)); clear HO_10; clear HB; have HO_10 := n0_; have HB := n1_; have BK549 := n2_; have GW549 := n3_; have GE549 := n4_; clear n0_ n1_ n2_ n3_ n4_; clear hb hbox hg; have hcz26_0 : w25.cell? ⟨gb549, 0, none⟩ = some (.int .i64 0) := (blk_cell BK549.out 0).trans rfl; have hcz26_1 : w25.cell? ⟨gb549, 1, none⟩ = some (.int .i64 0) := (blk_cell BK549.out 1).trans rfl; have hcz26_2 : w25.cell? ⟨gb549, 2, none⟩ = some (.int .i64 0) := (blk_cell BK549.out 2).trans rfl; have hcz26_3 : w25.cell? ⟨gb549, 3, none⟩ = some (.int .i64 0) := (blk_cell BK549.out 3).trans rfl; have hcz26_4 : w25.cell? ⟨gb549, 4, none⟩ = some (.string (⟨#[]⟩ : ByteArray)) := (blk_cell BK549.out 4).trans rfl; have hfz26_0 := blk_frozen BK549.out 0; have hfz26_1 := blk_frozen BK549.out 1; have hfz26_2 := blk_frozen BK549.out 2; have hfz26_3 := blk_frozen BK549.out 3; have hfz26_4 := blk_frozen BK549.out 4; obtain ⟨Ao27, co27, eo27⟩ := Kd.R_slice HO_10.out; subst eo27) | (go_at_call 11; (with_reducible refine (tree_Find.calls _ _ t543 ((rd_T24 l0 x55_2).f0) t550 t551 t552 _ ?side1 ?side2 A23.out).mono ?_); (case side1 => exact z38_); (case side2 => exact z40_); rintro e w28 ⟨rfl, hb⟩; have n0_ := Aside0.mk (Kd.R_below z6_ hb); have n1_ := Aside0.mk (blk_below (g := gb549) (o := .cells #[.int .i64 ((rd_T24 l0 x55_2).f0), .int .i64 ((rd_T24 l0 x55_2).f1), .int .i64 ((rd_T24 l0 x55_2).f2), .int .i64 ((rd_T24 l0 x55_2).f3), .string ((rd_T24 l0 x55_2).f4)] 24 (0, 0)) z7_ hb); have n2_ := Aside0.mk (below_step z35_ hb); clear HO_10; clear BK549; clear HB; have HO_10 := n0_; have BK549 := n1_; have HB := n2_; clear n0_ n1_ n2_; (try clear hb); (try clear hb2); (try clear hk); (try clear hi)))
         repeat (go_quiet (first | ((with_reducible refine gate_dst (N := 13) rfl ?_); (try (refine gate_guard (by rfl) ?_; dsimp only)); refine box_event ?hg (N := 13) ?hd (cs := #[.int .i64 0, .int .i64 0, .int .i64 0, .int .i64 0, .string (⟨#[]⟩ : ByteArray)]) (t := 24) ?hr ?_; (case hd => rfl); (case hg => rfl); (case hr => exact z12_); intro gb549 hg w25 hbox hb; have n0_ := Aside0.mk (Kd.R_below (Kd.R_elderB z29_ gb549 (Nat.le_of_eq hg.symm)) hb); have n1_ := Aside0.mk (below_step z1_ hb); have n2_ := Aside0.mk (hbox); have n3_ := Aside0.mk ((by rw [hg]; exact (below_size z1_) : w.heap.size ≤ gb549)); have n4_ := Aside0.mk ((by rw [hg]; exact (below_size z1_) : w.heap.size ≤ gb549)); clear HO_10; clear HB; have HO_10 := n0_; have HB := n1_; have BK549 := n2_; have GW549 := n3_; have GE549 := n4_; clear n0_ n1_ n2_ n3_ n4_; clear hb hbox hg; have hcz26_0 : w25.cell? ⟨gb549, 0, none⟩ = some (.int .i64 0) := (blk_cell BK549.out 0).trans rfl; have hcz26_1 : w25.cell? ⟨gb549, 1, none⟩ = some (.int .i64 0) := (blk_cell BK549.out 1).trans rfl; have hcz26_2 : w25.cell? ⟨gb549, 2, none⟩ = some (.int .i64 0) := (blk_cell BK549.out 2).trans rfl; have hcz26_3 : w25.cell? ⟨gb549, 3, none⟩ = some (.int .i64 0) := (blk_cell BK549.out 3).trans rfl; have hcz26_4 : w25.cell? ⟨gb549, 4, none⟩ = some (.string (⟨#[]⟩ : ByteArray)) := (blk_cell BK549.out 4).trans rfl; have hfz26_0 := blk_frozen BK549.out 0; have hfz26_1 := blk_frozen BK549.out 1; have hfz26_2 := blk_frozen BK549.out 2; have hfz26_3 := blk_frozen BK549.out 3; have hfz26_4 := blk_frozen BK549.out 4; obtain ⟨Ao27, co27, eo27⟩ := Kd.R_slice HO_10.out; subst eo27) | (go_at_call 11; (with_reducible refine (tree_Find.calls _ _ t543 ((rd_T24 l0 x55_2).f0) t550 t551 t552 _ ?side1 ?side2 A23.out).mono ?_); (case side1 => exact z38_); (case side2 => exact z40_); rintro e w28 ⟨rfl, hb⟩; have n0_ := Aside0.mk (Kd.R_below z6_ hb); have n1_ := Aside0.mk (blk_below (g := gb549) (o := .cells #[.int .i64 ((rd_T24 l0 x55_2).f0), .int .i64 ((rd_T24 l0 x55_2).f1), .int .i64 ((rd_T24 l0 x55_2).f2), .int .i64 ((rd_T24 l0 x55_2).f3), .string ((rd_T24 l0 x55_2).f4)] 24 (0, 0)) z7_ hb); have n2_ := Aside0.mk (below_step z35_ hb); clear HO_10; clear BK549; clear HB; have HO_10 := n0_; have BK549 := n1_; have HB := n2_; clear n0_ n1_ n2_; (try clear hb); (try clear hb2); (try clear hk); (try clear hi))); go_upto_region 13 with (first | ((with_reducible refine gate_dst (N := 13) rfl ?_); (try (refine gate_guard (by rfl) ?_; dsimp only)); refine box_event ?hg (N := 13) ?hd (cs := #[.int .i64 0, .int .i64 0, .int .i64 0, .int .i64 0, .string (⟨#[]⟩ : ByteArray)]) (t := 24) ?hr ?_; (case hd => rfl); (case hg => rfl); (case hr => exact z12_); intro gb549 hg w25 hbox hb; have n0_ := Aside0.mk (Kd.R_below (Kd.R_elderB z29_ gb549 (Nat.le_of_eq hg.symm)) hb); have n1_ := Aside0.mk (below_step z1_ hb); have n2_ := Aside0.mk (hbox); have n3_ := Aside0.mk ((by rw [hg]; exact (below_size z1_) : w.heap.size ≤ gb549)); have n4_ := Aside0.mk ((by rw [hg]; exact (below_size z1_) : w.heap.size ≤ gb549)); clear HO_10; clear HB; have HO_10 := n0_; have HB := n1_; have BK549 := n2_; have GW549 := n3_; have GE549 := n4_; clear n0_ n1_ n2_ n3_ n4_; clear hb hbox hg; have hcz26_0 : w25.cell? ⟨gb549, 0, none⟩ = some (.int .i64 0) := (blk_cell BK549.out 0).trans rfl; have hcz26_1 : w25.cell? ⟨gb549, 1, none⟩ = some (.int .i64 0) := (blk_cell BK549.out 1).trans rfl; have hcz26_2 : w25.cell? ⟨gb549, 2, none⟩ = some (.int .i64 0) := (blk_cell BK549.out 2).trans rfl; have hcz26_3 : w25.cell? ⟨gb549, 3, none⟩ = some (.int .i64 0) := (blk_cell BK549.out 3).trans rfl; have hcz26_4 : w25.cell? ⟨gb549, 4, none⟩ = some (.string (⟨#[]⟩ : ByteArray)) := (blk_cell BK549.out 4).trans rfl; have hfz26_0 := blk_frozen BK549.out 0; have hfz26_1 := blk_frozen BK549.out 1; have hfz26_2 := blk_frozen BK549.out 2; have hfz26_3 := blk_frozen BK549.out 3; have hfz26_4 := blk_frozen BK549.out 4; obtain ⟨Ao27, co27, eo27⟩ := Kd.R_slice HO_10.out; subst eo27) | (go_at_call 11; (with_reducible refine (tree_Find.calls _ _ t543 ((rd_T24 l0 x55_2).f0) t550 t551 t552 _ ?side1 ?side2 A23.out).mono ?_); (case side1 => exact z38_); (case side2 => exact z40_); rintro e w28 ⟨rfl, hb⟩; have n0_ := Aside0.mk (Kd.R_below z6_ hb); have n1_ := Aside0.mk (blk_below (g := gb549) (o := .cells #[.int .i64 ((rd_T24 l0 x55_2).f0), .int .i64 ((rd_T24 l0 x55_2).f1), .int .i64 ((rd_T24 l0 x55_2).f2), .int .i64 ((rd_T24 l0 x55_2).f3), .string ((rd_T24 l0 x55_2).f4)] 24 (0, 0)) z7_ hb); have n2_ := Aside0.mk (below_step z35_ hb); clear HO_10; clear BK549; clear HB; have HO_10 := n0_; have BK549 := n1_; have HB := n2_; clear n0_ n1_ n2_; (try clear hb); (try clear hb2); (try clear hk); (try clear hi))))
         (try simp only [Act.put, List.setIfInBounds_toArray, List.set_cons_zero, List.set_cons_succ])
         go_cut [82] (fun v82 wc => ∃ (kq : Nat) (x82_23 : Bool), v82 = .bool x82_23 ∧ Aside0 (formelaw10_TreeMoves.j2 kq l0 a1 a2 a3 x9_2 t543 t550 l0 (l0.length : Int) x55_2 x82_23 ((rd_T24 l0 x55_2).f0) ((rd_T24 l0 x55_2).f1) ((rd_T24 l0 x55_2).f2) ((rd_T24 l0 x55_2).f3) ((rd_T24 l0 x55_2).f4) = some r) ∧ Aside0 (kq ≤ k2) ∧ Aside0 (Kd.R k24 24 wc w.heap.size (fun k_ => k_ ≠ gb549) (.slice Ao27 t543.length co27) t543) ∧ Aside0 (wc.heap[gb549]? = some (.cells #[.int .i64 ((rd_T24 l0 x55_2).f0), .int .i64 ((rd_T24 l0 x55_2).f1), .int .i64 ((rd_T24 l0 x55_2).f2), .int .i64 ((rd_T24 l0 x55_2).f3), .string ((rd_T24 l0 x55_2).f4)] 24 (0, 0))) ∧ Aside0 (Below w.heap.size w wc))
         case first =>
          have H := HC24.out
          clear HC24
          by_cases c29 : t552 = 0
          ·rw [if_pos c29] at H
           have c29b0 : (t552 == 0) = true := beq_iff_eq.mpr c29
           have c29b1 : (t552 != 0) = false := bne_eq_false_iff_eq.mpr c29
           clear c29
           (first | rw [c29b0] | (simp only [i64_w, i32_w]; rw [c29b0]) | skip)
           by_cases c30 : t551 = true
           ·subst c30
            have H1 : (if t550 < 0 then (formelaw10_TreeMoves.j2 k2 l0 a1 a2 a3 x9_2 t543 t550 l0 (l0.length : Int) x55_2 true ((rd_T24 l0 x55_2).f0) ((rd_T24 l0 x55_2).f1) ((rd_T24 l0 x55_2).f2) ((rd_T24 l0 x55_2).f3) ((rd_T24 l0 x55_2).f4)) else (formelaw10_TreeMoves.j2 k2 l0 a1 a2 a3 x9_2 t543 t550 l0 (l0.length : Int) x55_2 (decide (t550 ≥ (t543.length : Int))) ((rd_T24 l0 x55_2).f0) ((rd_T24 l0 x55_2).f1) ((rd_T24 l0 x55_2).f2) ((rd_T24 l0 x55_2).f3) ((rd_T24 l0 x55_2).f4))) = some r := by rw [if_pos rfl] at H; exact H
            clear H
            have H := H1
            clear H1
            by_cases c31 : t550 < 0
            ·rw [if_pos c31] at H
             have c31b0 : decide (t550 < 0) = true := decide_eq_true c31
             clear c31
             have H' := Aside0.mk H
             clear H
             go_wp2
             repeat (go_quiet (fail); try go_wp2)
             go_meet
             case rel => exact ⟨_, (true), z8_, H', ⟨by have := HJ9.out; have := HK2.out; first | omega | exact Nat.le_refl _⟩, ⟨by (with_reducible repeat (first | apply Kd.R_alloc | apply Kd.R_drewN | apply Kd.R_drew)); exact Kd.R_mono HO_10.out (fun _ hk => hk.2)⟩, ⟨by (with_reducible repeat (first | refine blk_drewN ?_ _ | refine blk_drew ?_ | refine blk_alloc ?_ _)); exact BK549.out⟩, ⟨by repeat (first | (with_reducible first | exact HB.out | apply below_alloc | apply pw_below_drewN | apply below_drew1 | refine below_set ?_ GE549.out) | exact HB.out)⟩⟩
            ·rw [if_neg c31] at H
             have c31b0 : decide (t550 < 0) = false := decide_eq_false c31
             clear c31
             have H' := Aside0.mk H
             clear H
             go_wp2
             repeat (go_quiet (fail); try go_wp2)
             go_meet
             case rel => exact ⟨_, (decide (t550 ≥ (t543.length : Int))), z8_, H', ⟨by have := HJ9.out; have := HK2.out; first | omega | exact Nat.le_refl _⟩, ⟨by (with_reducible repeat (first | apply Kd.R_alloc | apply Kd.R_drewN | apply Kd.R_drew)); exact Kd.R_mono HO_10.out (fun _ hk => hk.2)⟩, ⟨by (with_reducible repeat (first | refine blk_drewN ?_ _ | refine blk_drew ?_ | refine blk_alloc ?_ _)); exact BK549.out⟩, ⟨by repeat (first | (with_reducible first | exact HB.out | apply below_alloc | apply pw_below_drewN | apply below_drew1 | refine below_set ?_ GE549.out) | exact HB.out)⟩⟩
           ·replace c30 := Bool.eq_false_iff.mpr c30
            subst c30
            have H1 : (formelaw10_TreeMoves.j2 k2 l0 a1 a2 a3 x9_2 t543 t550 l0 (l0.length : Int) x55_2 true ((rd_T24 l0 x55_2).f0) ((rd_T24 l0 x55_2).f1) ((rd_T24 l0 x55_2).f2) ((rd_T24 l0 x55_2).f3) ((rd_T24 l0 x55_2).f4)) = some r := by rw [if_neg (show ¬ (false = true) by decide)] at H; exact H
            clear H
            have H := H1
            clear H1
            have H' := Aside0.mk H
            clear H
            go_wp2
            repeat (go_quiet (fail); try go_wp2)
            go_meet
            case rel => exact ⟨_, (true), z8_, H', ⟨by have := HJ9.out; have := HK2.out; first | omega | exact Nat.le_refl _⟩, ⟨by (with_reducible repeat (first | apply Kd.R_alloc | apply Kd.R_drewN | apply Kd.R_drew)); exact Kd.R_mono HO_10.out (fun _ hk => hk.2)⟩, ⟨by (with_reducible repeat (first | refine blk_drewN ?_ _ | refine blk_drew ?_ | refine blk_alloc ?_ _)); exact BK549.out⟩, ⟨by repeat (first | (with_reducible first | exact HB.out | apply below_alloc | apply pw_below_drewN | apply below_drew1 | refine below_set ?_ GE549.out) | exact HB.out)⟩⟩
          ·rw [if_neg c29] at H
           have c29b0 : (t552 == 0) = false := beq_eq_false_iff_ne.mpr c29
           have c29b1 : (t552 != 0) = true := bne_iff_ne.mpr c29
           (first | rw [c29b0] | (simp only [i64_w, i32_w]; rw [c29b0]) | skip)
           have H' := Aside0.mk H
           clear H
           go_wp2
           repeat (go_quiet (fail); try go_wp2)
           go_meet
           case rel => exact ⟨_, (true), z8_, H', ⟨by have := HJ9.out; have := HK2.out; first | omega | exact Nat.le_refl _⟩, ⟨by (with_reducible repeat (first | apply Kd.R_alloc | apply Kd.R_drewN | apply Kd.R_drew)); exact Kd.R_mono HO_10.out (fun _ hk => hk.2)⟩, ⟨by (with_reducible repeat (first | refine blk_drewN ?_ _ | refine blk_drew ?_ | refine blk_alloc ?_ _)); exact BK549.out⟩, ⟨by repeat (first | (with_reducible first | exact HB.out | apply below_alloc | apply pw_below_drewN | apply below_drew1 | refine below_set ?_ GE549.out) | exact HB.out)⟩⟩
         case rest =>
          clear HC24
          try clear c1
          try clear c2
          try clear p2
          try clear c3
          try clear p5
          try clear q5
          try clear hx5
          try clear c7
          try clear c8
          try clear c9
          try clear c9b0
          try clear c9b1
          try clear c14
          try clear c14b0
          try clear c14b1
          try clear c14b2
          try clear c19
          try clear c20
          try clear c20b0
          try clear c21
          try clear c21b0
          try clear c22
          try clear c22b0
          try clear c29
          try clear c29b0
          try clear c29b1
          try clear c30
          try clear c31
          try clear c31b0
          try clear hcz26_0
          try clear hcz26_1
          try clear hcz26_2
          try clear hcz26_3
          try clear hcz26_4
          try clear hfz26_0
          try clear hfz26_1
          try clear hfz26_2
          try clear hfz26_3
          try clear hfz26_4
          try clear hx548_0
          try clear hx548_1
          try clear hx548_2
          try clear hx548_3
          try clear hx548_4
          try clear p2
          try clear p548
          try clear q548
          obtain ⟨kq, x82_23, rfl, HA, HJ23, HO_10, BK549, HB⟩ := hcut
          cases kq with
          | zero => exact absurd HA.out (by simp [formelaw10_TreeMoves.j2])
          | succ kj23 =>
           have H := HA.out
           clear HA
           simp only [formelaw10_TreeMoves.j2] at H
           by_cases c32 : x82_23 = true
           ·subst c32
            have H1 : (none) = some r := by rw [if_pos rfl] at H; exact H
            clear H
            have H := H1
            clear H1
            exact absurd H (by simp)
           ·replace c32 := Bool.eq_false_iff.mpr c32
            subst c32
            have H1 : (if ((rd_T24 l0 x55_2).f0) = a1 then (if x9_2 = true then (if 0 ≤ t550 then (if t550 < (t543.length : Int) then (formelaw10_TreeMoves.l0 kj23 l0 a1 a2 a3 (((rd_T24 t543 t550).f0) == ((rd_T24 l0 x55_2).f0) && (((rd_T24 t543 t550).f1) == a2 && (((rd_T24 t543 t550).f2) == ((rd_T24 l0 x55_2).f2) && (((rd_T24 t543 t550).f3) == ((rd_T24 l0 x55_2).f3) && ((((rd_T24 t543 t550).f4).toList) == ((rd_T24 l0 x55_2).f4).toList))))) t543 l0 (l0.length : Int) (wrap64 (x55_2 + 1))) else (none)) else (none)) else (formelaw10_TreeMoves.l0 kj23 l0 a1 a2 a3 false t543 l0 (l0.length : Int) (wrap64 (x55_2 + 1)))) else (if x9_2 = true then (if 0 ≤ t550 then (if t550 < (t543.length : Int) then (formelaw10_TreeMoves.l0 kj23 l0 a1 a2 a3 (((rd_T24 t543 t550).f0) == ((rd_T24 l0 x55_2).f0) && (((rd_T24 t543 t550).f1) == ((rd_T24 l0 x55_2).f1) && (((rd_T24 t543 t550).f2) == ((rd_T24 l0 x55_2).f2) && (((rd_T24 t543 t550).f3) == ((rd_T24 l0 x55_2).f3) && ((((rd_T24 t543 t550).f4).toList) == ((rd_T24 l0 x55_2).f4).toList))))) t543 l0 (l0.length : Int) (wrap64 (x55_2 + 1))) else (none)) else (none)) else (formelaw10_TreeMoves.l0 kj23 l0 a1 a2 a3 false t543 l0 (l0.length : Int) (wrap64 (x55_2 + 1))))) = some r := by rw [if_neg (show ¬ (false = true) by decide)] at H; exact H
            clear H
            have H := H1
            clear H1
            by_cases c33 : ((rd_T24 l0 x55_2).f0) = a1
            ·rw [if_pos c33] at H
             have c33b0 : (((rd_T24 l0 x55_2).f0) == a1) = true := beq_iff_eq.mpr c33
             have c33b1 : (((rd_T24 l0 x55_2).f0) != a1) = false := bne_eq_false_iff_eq.mpr c33
             clear c33
             by_cases c34 : x9_2 = true
             ·subst c34
              have H1 : (if 0 ≤ t550 then (if t550 < (t543.length : Int) then (formelaw10_TreeMoves.l0 kj23 l0 a1 a2 a3 (((rd_T24 t543 t550).f0) == ((rd_T24 l0 x55_2).f0) && (((rd_T24 t543 t550).f1) == a2 && (((rd_T24 t543 t550).f2) == ((rd_T24 l0 x55_2).f2) && (((rd_T24 t543 t550).f3) == ((rd_T24 l0 x55_2).f3) && ((((rd_T24 t543 t550).f4).toList) == ((rd_T24 l0 x55_2).f4).toList))))) t543 l0 (l0.length : Int) (wrap64 (x55_2 + 1))) else (none)) else (none)) = some r := by rw [if_pos rfl] at H; exact H
              clear H
              have H := H1
              clear H1
              by_cases c35 : 0 ≤ t550
              rotate_left
              ·rw [if_neg c35] at H; exact absurd H (by simp)
              rw [if_pos c35] at H
              have c35b0 : decide (0 ≤ t550) = true := decide_eq_true c35
              clear c35
              by_cases c36 : t550 < (t543.length : Int)
              rotate_left
              ·rw [if_neg c36] at H; exact absurd H (by simp)
              rw [if_pos c36] at H
              have c36b0 : decide (t550 < (t543.length : Int)) = true := decide_eq_true c36
              clear c36
              have H' := Aside0.mk H
              clear H
              have hcz37_0 : wc.cell? ⟨gb549, 0, none⟩ = some (.int .i64 ((rd_T24 l0 x55_2).f0)) := (blk_cell BK549.out 0).trans rfl
              have hcz37_1 : wc.cell? ⟨gb549, 1, none⟩ = some (.int .i64 ((rd_T24 l0 x55_2).f1)) := (blk_cell BK549.out 1).trans rfl
              have hcz37_2 : wc.cell? ⟨gb549, 2, none⟩ = some (.int .i64 ((rd_T24 l0 x55_2).f2)) := (blk_cell BK549.out 2).trans rfl
              have hcz37_3 : wc.cell? ⟨gb549, 3, none⟩ = some (.int .i64 ((rd_T24 l0 x55_2).f3)) := (blk_cell BK549.out 3).trans rfl
              have hcz37_4 : wc.cell? ⟨gb549, 4, none⟩ = some (.string ((rd_T24 l0 x55_2).f4)) := (blk_cell BK549.out 4).trans rfl
              have hfz37_0 := blk_frozen BK549.out 0
              have hfz37_1 := blk_frozen BK549.out 1
              have hfz37_2 := blk_frozen BK549.out 2
              have hfz37_3 := blk_frozen BK549.out 3
              have hfz37_4 := blk_frozen BK549.out 4
              have p553 : 0 ≤ (t550 : Int) := of_decide_eq_true z3_
              have q553 : t550 < (t543.length : Int) := of_decide_eq_true z3_
              obtain ⟨ad553, e553, hx553_0, hx553_1, hx553_2, hx553_3, hx553_4⟩ := at_T24 (Kd.R_reads' HO_10.out).2.2 t550 p553 q553
              cases e553
              have hn553_0 : ad553.block ≠ gb549 := by first | exact (HO_10.out.1 _ rfl).2 | exact (HO_10.out.1 _ rfl).1 | exact HO_10.out.1 _ rfl
              replace hx553_0 := (cell_far (p := ⟨gb549, 1, none⟩) z32_ (.int .i64 a2)).trans hx553_0
              replace hx553_1 := (cell_far (p := ⟨gb549, 1, none⟩) z32_ (.int .i64 a2)).trans hx553_1
              replace hx553_2 := (cell_far (p := ⟨gb549, 1, none⟩) z32_ (.int .i64 a2)).trans hx553_2
              replace hx553_3 := (cell_far (p := ⟨gb549, 1, none⟩) z32_ (.int .i64 a2)).trans hx553_3
              replace hx553_4 := (cell_far (p := ⟨gb549, 1, none⟩) z32_ (.int .i64 a2)).trans hx553_4
              (try have hy553_0 := fun (n_ : Nat) => (show (((wc.drewN n_).setCell ⟨gb549, 1, none⟩ (.int .i64 a2))).cell? _ = some _ from hx553_0))
              (try have hy553_1 := fun (n_ : Nat) => (show (((wc.drewN n_).setCell ⟨gb549, 1, none⟩ (.int .i64 a2))).cell? _ = some _ from hx553_1))
              (try have hy553_2 := fun (n_ : Nat) => (show (((wc.drewN n_).setCell ⟨gb549, 1, none⟩ (.int .i64 a2))).cell? _ = some _ from hx553_2))
              (try have hy553_3 := fun (n_ : Nat) => (show (((wc.drewN n_).setCell ⟨gb549, 1, none⟩ (.int .i64 a2))).cell? _ = some _ from hx553_3))
              (try have hy553_4 := fun (n_ : Nat) => (show (((wc.drewN n_).setCell ⟨gb549, 1, none⟩ (.int .i64 a2))).cell? _ = some _ from hx553_4))
              clear hn553_0
              replace p553 := eq_true p553
              replace q553 := eq_true q553
              go_wp2
              repeat (go_quiet (fail); try go_wp2)
              go_roundg kj23
              case measure => have := HJ9.out; have := HK2.out; have := HJ23.out; omega
              case rel => exact ⟨((((rd_T24 t543 t550).f0) == ((rd_T24 l0 x55_2).f0) && (((rd_T24 t543 t550).f1) == a2 && (((rd_T24 t543 t550).f2) == ((rd_T24 l0 x55_2).f2) && (((rd_T24 t543 t550).f3) == ((rd_T24 l0 x55_2).f3) && ((((rd_T24 t543 t550).f4).toList) == ((rd_T24 l0 x55_2).f4).toList)))))), (wrap64 (x55_2 + 1)), z8_, z8_, H', ⟨by have := HJ9.out; have := HK2.out; have := HJ23.out; omega⟩, ⟨by (with_reducible repeat (first | apply Kd.R_alloc | apply Kd.R_drewN | apply Kd.R_drew)); exact Kd.R_mono (Kd.R_far (p := ⟨gb549, 1, none⟩) (Kd.R_mono HO_10.out (fun k_ hk => (⟨hk, hk⟩ : _ ∧ k_ ≠ gb549))) (fun _ hk => hk.2) (.int .i64 a2)) (fun _ hk => trivial)⟩, ⟨by repeat (first | (with_reducible first | exact HB.out | apply below_alloc | apply pw_below_drewN | apply below_drew1 | refine below_set ?_ GE549.out) | exact HB.out)⟩⟩
             ·replace c34 := Bool.eq_false_iff.mpr c34
              subst c34
              have H1 : (formelaw10_TreeMoves.l0 kj23 l0 a1 a2 a3 false t543 l0 (l0.length : Int) (wrap64 (x55_2 + 1))) = some r := by rw [if_neg (show ¬ (false = true) by decide)] at H; exact H
              clear H
              have H := H1
              clear H1
              have H' := Aside0.mk H
              clear H
              have hcz38_0 : wc.cell? ⟨gb549, 0, none⟩ = some (.int .i64 ((rd_T24 l0 x55_2).f0)) := (blk_cell BK549.out 0).trans rfl
              have hcz38_1 : wc.cell? ⟨gb549, 1, none⟩ = some (.int .i64 ((rd_T24 l0 x55_2).f1)) := (blk_cell BK549.out 1).trans rfl
              have hcz38_2 : wc.cell? ⟨gb549, 2, none⟩ = some (.int .i64 ((rd_T24 l0 x55_2).f2)) := (blk_cell BK549.out 2).trans rfl
              have hcz38_3 : wc.cell? ⟨gb549, 3, none⟩ = some (.int .i64 ((rd_T24 l0 x55_2).f3)) := (blk_cell BK549.out 3).trans rfl
              have hcz38_4 : wc.cell? ⟨gb549, 4, none⟩ = some (.string ((rd_T24 l0 x55_2).f4)) := (blk_cell BK549.out 4).trans rfl
              have hfz38_0 := blk_frozen BK549.out 0
              have hfz38_1 := blk_frozen BK549.out 1
              have hfz38_2 := blk_frozen BK549.out 2
              have hfz38_3 := blk_frozen BK549.out 3
              have hfz38_4 := blk_frozen BK549.out 4
              go_wp2
              repeat (go_quiet (fail); try go_wp2)
              go_roundg kj23
              case measure => have := HJ9.out; have := HK2.out; have := HJ23.out; omega
              case rel => exact ⟨(false), (wrap64 (x55_2 + 1)), z8_, z8_, H', ⟨by have := HJ9.out; have := HK2.out; have := HJ23.out; omega⟩, ⟨by (with_reducible repeat (first | apply Kd.R_alloc | apply Kd.R_drewN | apply Kd.R_drew)); exact Kd.R_mono (Kd.R_far (p := ⟨gb549, 1, none⟩) (Kd.R_mono HO_10.out (fun k_ hk => (⟨hk, hk⟩ : _ ∧ k_ ≠ gb549))) (fun _ hk => hk.2) (.int .i64 a2)) (fun _ hk => trivial)⟩, ⟨by repeat (first | (with_reducible first | exact HB.out | apply below_alloc | apply pw_below_drewN | apply below_drew1 | refine below_set ?_ GE549.out) | exact HB.out)⟩⟩
            ·rw [if_neg c33] at H
             have c33b0 : (((rd_T24 l0 x55_2).f0) == a1) = false := beq_eq_false_iff_ne.mpr c33
             have c33b1 : (((rd_T24 l0 x55_2).f0) != a1) = true := bne_iff_ne.mpr c33
             by_cases c39 : x9_2 = true
             ·subst c39
              have H1 : (if 0 ≤ t550 then (if t550 < (t543.length : Int) then (formelaw10_TreeMoves.l0 kj23 l0 a1 a2 a3 (((rd_T24 t543 t550).f0) == ((rd_T24 l0 x55_2).f0) && (((rd_T24 t543 t550).f1) == ((rd_T24 l0 x55_2).f1) && (((rd_T24 t543 t550).f2) == ((rd_T24 l0 x55_2).f2) && (((rd_T24 t543 t550).f3) == ((rd_T24 l0 x55_2).f3) && ((((rd_T24 t543 t550).f4).toList) == ((rd_T24 l0 x55_2).f4).toList))))) t543 l0 (l0.length : Int) (wrap64 (x55_2 + 1))) else (none)) else (none)) = some r := by rw [if_pos rfl] at H; exact H
              clear H
              have H := H1
              clear H1
              by_cases c40 : 0 ≤ t550
              rotate_left
              ·rw [if_neg c40] at H; exact absurd H (by simp)
              rw [if_pos c40] at H
              have c40b0 : decide (0 ≤ t550) = true := decide_eq_true c40
              clear c40
              by_cases c41 : t550 < (t543.length : Int)
              rotate_left
              ·rw [if_neg c41] at H; exact absurd H (by simp)
              rw [if_pos c41] at H
              have c41b0 : decide (t550 < (t543.length : Int)) = true := decide_eq_true c41
              clear c41
              have H' := Aside0.mk H
              clear H
              have hcz42_0 : wc.cell? ⟨gb549, 0, none⟩ = some (.int .i64 ((rd_T24 l0 x55_2).f0)) := (blk_cell BK549.out 0).trans rfl
              have hcz42_1 : wc.cell? ⟨gb549, 1, none⟩ = some (.int .i64 ((rd_T24 l0 x55_2).f1)) := (blk_cell BK549.out 1).trans rfl
              have hcz42_2 : wc.cell? ⟨gb549, 2, none⟩ = some (.int .i64 ((rd_T24 l0 x55_2).f2)) := (blk_cell BK549.out 2).trans rfl
              have hcz42_3 : wc.cell? ⟨gb549, 3, none⟩ = some (.int .i64 ((rd_T24 l0 x55_2).f3)) := (blk_cell BK549.out 3).trans rfl
              have hcz42_4 : wc.cell? ⟨gb549, 4, none⟩ = some (.string ((rd_T24 l0 x55_2).f4)) := (blk_cell BK549.out 4).trans rfl
              have hfz42_0 := blk_frozen BK549.out 0
              have hfz42_1 := blk_frozen BK549.out 1
              have hfz42_2 := blk_frozen BK549.out 2
              have hfz42_3 := blk_frozen BK549.out 3
              have hfz42_4 := blk_frozen BK549.out 4
              have p554 : 0 ≤ (t550 : Int) := of_decide_eq_true z3_
              have q554 : t550 < (t543.length : Int) := of_decide_eq_true z3_
              obtain ⟨ad554, e554, hx554_0, hx554_1, hx554_2, hx554_3, hx554_4⟩ := at_T24 (Kd.R_reads' HO_10.out).2.2 t550 p554 q554
              cases e554
              replace p554 := eq_true p554
              replace q554 := eq_true q554
              go_wp2
              repeat (go_quiet (fail); try go_wp2)
              go_roundg kj23
              case measure => have := HJ9.out; have := HK2.out; have := HJ23.out; omega
              case rel => exact ⟨((((rd_T24 t543 t550).f0) == ((rd_T24 l0 x55_2).f0) && (((rd_T24 t543 t550).f1) == ((rd_T24 l0 x55_2).f1) && (((rd_T24 t543 t550).f2) == ((rd_T24 l0 x55_2).f2) && (((rd_T24 t543 t550).f3) == ((rd_T24 l0 x55_2).f3) && ((((rd_T24 t543 t550).f4).toList) == ((rd_T24 l0 x55_2).f4).toList)))))), (wrap64 (x55_2 + 1)), z8_, z8_, H', ⟨by have := HJ9.out; have := HK2.out; have := HJ23.out; omega⟩, ⟨by (with_reducible repeat (first | apply Kd.R_alloc | apply Kd.R_drewN | apply Kd.R_drew)); exact Kd.R_mono HO_10.out (fun _ hk => trivial)⟩, ⟨by repeat (first | (with_reducible first | exact HB.out | apply below_alloc | apply pw_below_drewN | apply below_drew1 | refine below_set ?_ GE549.out) | exact HB.out)⟩⟩
             ·replace c39 := Bool.eq_false_iff.mpr c39
              subst c39
              have H1 : (formelaw10_TreeMoves.l0 kj23 l0 a1 a2 a3 false t543 l0 (l0.length : Int) (wrap64 (x55_2 + 1))) = some r := by rw [if_neg (show ¬ (false = true) by decide)] at H; exact H
              clear H
              have H := H1
              clear H1
              have H' := Aside0.mk H
              clear H
              have hcz43_0 : wc.cell? ⟨gb549, 0, none⟩ = some (.int .i64 ((rd_T24 l0 x55_2).f0)) := (blk_cell BK549.out 0).trans rfl
              have hcz43_1 : wc.cell? ⟨gb549, 1, none⟩ = some (.int .i64 ((rd_T24 l0 x55_2).f1)) := (blk_cell BK549.out 1).trans rfl
              have hcz43_2 : wc.cell? ⟨gb549, 2, none⟩ = some (.int .i64 ((rd_T24 l0 x55_2).f2)) := (blk_cell BK549.out 2).trans rfl
              have hcz43_3 : wc.cell? ⟨gb549, 3, none⟩ = some (.int .i64 ((rd_T24 l0 x55_2).f3)) := (blk_cell BK549.out 3).trans rfl
              have hcz43_4 : wc.cell? ⟨gb549, 4, none⟩ = some (.string ((rd_T24 l0 x55_2).f4)) := (blk_cell BK549.out 4).trans rfl
              have hfz43_0 := blk_frozen BK549.out 0
              have hfz43_1 := blk_frozen BK549.out 1
              have hfz43_2 := blk_frozen BK549.out 2
              have hfz43_3 := blk_frozen BK549.out 3
              have hfz43_4 := blk_frozen BK549.out 4
              go_wp2
              repeat (go_quiet (fail); try go_wp2)
              go_roundg kj23
              case measure => have := HJ9.out; have := HK2.out; have := HJ23.out; omega
              case rel => exact ⟨(false), (wrap64 (x55_2 + 1)), z8_, z8_, H', ⟨by have := HJ9.out; have := HK2.out; have := HJ23.out; omega⟩, ⟨by (with_reducible repeat (first | apply Kd.R_alloc | apply Kd.R_drewN | apply Kd.R_drew)); exact Kd.R_mono HO_10.out (fun _ hk => trivial)⟩, ⟨by repeat (first | (with_reducible first | exact HB.out | apply below_alloc | apply pw_below_drewN | apply below_drew1 | refine below_set ?_ GE549.out) | exact HB.out)⟩⟩
        ·rw [if_neg c20] at H
         have c20b0 : decide (x55_2 < (l0.length : Int)) = false := decide_eq_false c20
         clear c20
         replace H := Option.bind_eq_some_iff.mp H
         obtain ⟨⟨t555, t556⟩, A440, H⟩ := H
         try dsimp only at H
         have A44 := Aside0.mk A440
         clear A440
         have HC45 := Aside0.mk H
         clear H
         obtain ⟨Ao46, co46, eo46⟩ := Kd.R_slice HO_10.out
         subst eo46
         go_upto_region 20 with (first | (go_at_call 15; (with_reducible refine (tree_Kids.calls k2 _ _ t543 a2 t555 t556 _ ?side1 ?side2 A44.out).mono ?_); (case side1 => exact z28_); (case side2 => exact z40_); rintro e w47 ⟨v557, rfl, ho0, hb⟩; have n0_ := Aside0.mk (Kd.R_below z29_ hb); have n1_ := Aside0.mk (Kd.R_lower ho0 (below_size z1_)); have n2_ := Aside0.mk (below_step z1_ hb); clear HO_10; clear HB; have HO_10 := n0_; have HO558 := n1_; have HB := n2_; clear n0_ n1_ n2_; (try clear hb); (try clear hb2); (try clear hk); (try clear hi); (try clear ho0)))
         repeat (go_quiet (first | (go_at_call 15; (with_reducible refine (tree_Kids.calls k2 _ _ t543 a2 t555 t556 _ ?side1 ?side2 A44.out).mono ?_); (case side1 => exact z28_); (case side2 => exact z40_); rintro e w47 ⟨v557, rfl, ho0, hb⟩; have n0_ := Aside0.mk (Kd.R_below z29_ hb); have n1_ := Aside0.mk (Kd.R_lower ho0 (below_size z1_)); have n2_ := Aside0.mk (below_step z1_ hb); clear HO_10; clear HB; have HO_10 := n0_; have HO558 := n1_; have HB := n2_; clear n0_ n1_ n2_; (try clear hb); (try clear hb2); (try clear hk); (try clear hi); (try clear ho0))); go_upto_region 20 with (first | (go_at_call 15; (with_reducible refine (tree_Kids.calls k2 _ _ t543 a2 t555 t556 _ ?side1 ?side2 A44.out).mono ?_); (case side1 => exact z28_); (case side2 => exact z40_); rintro e w47 ⟨v557, rfl, ho0, hb⟩; have n0_ := Aside0.mk (Kd.R_below z29_ hb); have n1_ := Aside0.mk (Kd.R_lower ho0 (below_size z1_)); have n2_ := Aside0.mk (below_step z1_ hb); clear HO_10; clear HB; have HO_10 := n0_; have HO558 := n1_; have HB := n2_; clear n0_ n1_ n2_; (try clear hb); (try clear hb2); (try clear hk); (try clear hi); (try clear ho0))))
         (try simp only [Act.put, List.setIfInBounds_toArray, List.set_cons_zero, List.set_cons_succ])
         go_cut [111] (fun v111 wc => ∃ (kq : Nat) (x111_44 : Bool), v111 = .bool x111_44 ∧ Aside0 (formelaw10_TreeMoves.j3 kq l0 a1 a3 x9_2 t543 t555 x111_44 = some r) ∧ Aside0 (kq ≤ k2) ∧ Aside0 (Kd.R k24 24 wc w.heap.size (fun _ => True) (.slice Ao46 t543.length co46) t543) ∧ Aside0 (Kd.R (Kd.int .i64) 3 wc w.heap.size (fun _ => True) v557 t555) ∧ Aside0 (Below w.heap.size w wc))
         case first =>
          have H := HC45.out
          clear HC45
          by_cases c48 : t556 = 0
          ·rw [if_pos c48] at H
           have c48b0 : (t556 == 0) = true := beq_iff_eq.mpr c48
           have c48b1 : (t556 != 0) = false := bne_eq_false_iff_eq.mpr c48
           clear c48
           (first | rw [c48b0] | (simp only [i64_w, i32_w]; rw [c48b0]) | skip)
           have H' := Aside0.mk H
           clear H
           obtain ⟨Ao49, co49, eo49⟩ := Kd.R_slice HO558.out
           subst eo49
           go_wp2
           repeat (go_quiet (fail); try go_wp2)
           go_meet
           case rel => exact ⟨_, (((t555.length : Int) == 0)), z8_, H', ⟨by have := HJ9.out; have := HK2.out; first | omega | exact Nat.le_refl _⟩, ⟨by (with_reducible repeat (first | apply Kd.R_alloc | apply Kd.R_drewN | apply Kd.R_drew)); exact HO_10.out⟩, ⟨by (with_reducible repeat (first | apply Kd.R_alloc | apply Kd.R_drewN | apply Kd.R_drew)); exact HO558.out⟩, ⟨by repeat (first | (with_reducible first | exact HB.out | apply below_alloc | apply pw_below_drewN | apply below_drew1) | exact HB.out)⟩⟩
          ·rw [if_neg c48] at H
           have c48b0 : (t556 == 0) = false := beq_eq_false_iff_ne.mpr c48
           have c48b1 : (t556 != 0) = true := bne_iff_ne.mpr c48
           (first | rw [c48b0] | (simp only [i64_w, i32_w]; rw [c48b0]) | skip)
           have H' := Aside0.mk H
           clear H
           go_wp2
           repeat (go_quiet (fail); try go_wp2)
           go_meet
           case rel => exact ⟨_, (true), z8_, H', ⟨by have := HJ9.out; have := HK2.out; first | omega | exact Nat.le_refl _⟩, ⟨by (with_reducible repeat (first | apply Kd.R_alloc | apply Kd.R_drewN | apply Kd.R_drew)); exact HO_10.out⟩, ⟨by (with_reducible repeat (first | apply Kd.R_alloc | apply Kd.R_drewN | apply Kd.R_drew)); exact HO558.out⟩, ⟨by repeat (first | (with_reducible first | exact HB.out | apply below_alloc | apply pw_below_drewN | apply below_drew1) | exact HB.out)⟩⟩
         case rest =>
          clear HC45
          try clear c1
          try clear c2
          try clear p2
          try clear c3
          try clear c4
          try clear p5
          try clear q5
          try clear hx5
          try clear p6
          try clear c7
          try clear c8
          try clear c9
          try clear c9b0
          try clear c9b1
          try clear c14
          try clear c14b0
          try clear c14b1
          try clear c14b2
          try clear c19
          try clear c20
          try clear c20b0
          try clear c21
          try clear c21b0
          try clear c22
          try clear c22b0
          try clear c29
          try clear c29b0
          try clear c29b1
          try clear c30
          try clear c31
          try clear c31b0
          try clear c32
          try clear c33
          try clear c33b0
          try clear c33b1
          try clear c34
          try clear c35
          try clear c35b0
          try clear c36
          try clear c36b0
          try clear c39
          try clear c40
          try clear c40b0
          try clear c41
          try clear c41b0
          try clear c48
          try clear c48b0
          try clear c48b1
          try clear hcz26_0
          try clear hcz26_1
          try clear hcz26_2
          try clear hcz26_3
          try clear hcz26_4
          try clear hcz37_0
          try clear hcz37_1
          try clear hcz37_2
          try clear hcz37_3
          try clear hcz37_4
          try clear hcz38_0
          try clear hcz38_1
          try clear hcz38_2
          try clear hcz38_3
          try clear hcz38_4
          try clear hcz42_0
          try clear hcz42_1
          try clear hcz42_2
          try clear hcz42_3
          try clear hcz42_4
          try clear hcz43_0
          try clear hcz43_1
          try clear hcz43_2
          try clear hcz43_3
          try clear hcz43_4
          try clear hfz26_0
          try clear hfz26_1
          try clear hfz26_2
          try clear hfz26_3
          try clear hfz26_4
          try clear hfz37_0
          try clear hfz37_1
          try clear hfz37_2
          try clear hfz37_3
          try clear hfz37_4
          try clear hfz38_0
          try clear hfz38_1
          try clear hfz38_2
          try clear hfz38_3
          try clear hfz38_4
          try clear hfz42_0
          try clear hfz42_1
          try clear hfz42_2
          try clear hfz42_3
          try clear hfz42_4
          try clear hfz43_0
          try clear hfz43_1
          try clear hfz43_2
          try clear hfz43_3
          try clear hfz43_4
          try clear hx548_0
          try clear hx548_1
          try clear hx548_2
          try clear hx548_3
          try clear hx548_4
          try clear hx553_0
          try clear hx553_1
          try clear hx553_2
          try clear hx553_3
          try clear hx553_4
          try clear hx554_0
          try clear hx554_1
          try clear hx554_2
          try clear hx554_3
          try clear hx554_4
          try clear p2
          try clear p5
          try clear p548
          try clear p553
          try clear p554
          try clear q5
          try clear q548
          try clear q553
          try clear q554
          obtain ⟨kq, x111_44, rfl, HA, HJ44, HO_10, HO_17, HB⟩ := hcut
          cases kq with
          | zero => exact absurd HA.out (by simp [formelaw10_TreeMoves.j3])
          | succ kj44 =>
           have H := HA.out
           clear HA
           simp only [formelaw10_TreeMoves.j3] at H
           by_cases c50 : x111_44 = true
           ·subst c50
            have H1 : (none) = some r := by rw [if_pos rfl] at H; exact H
            clear H
            have H := H1
            clear H1
            exact absurd H (by simp)
           ·replace c50 := Bool.eq_false_iff.mpr c50
            subst c50
            have H1 : (formelaw10_TreeMoves.l1 kj44 l0 a1 a3 x9_2 t543 t555 (wrap64 ((t555.length : Int) - 1)) t555 (t555.length : Int) 0) = some r := by rw [if_neg (show ¬ (false = true) by decide)] at H; exact H
            clear H
            have H := H1
            clear H1
            have H' := Aside0.mk H
            clear H
            obtain ⟨Ao51, co51, eo51⟩ := Kd.R_slice HO_17.out
            subst eo51
            go_wp2
            repeat (go_quiet (fail); try go_wp2)
            go_loopg [19, 117] kj44 (fun kq v19 v117 w' => ∃ (x19_4 : Int) (x117_4 : Int), v19 = .int .i64 x19_4 ∧ v117 = .int .i64 x117_4 ∧ Aside0 (formelaw10_TreeMoves.l1 kq l0 a1 a3 x9_2 t543 t555 x19_4 t555 (t555.length : Int) x117_4 = some r) ∧ Aside0 (kq ≤ kj44) ∧ Aside0 (Kd.R k24 24 w' w.heap.size (fun _ => True) (.slice Ao46 t543.length co46) t543) ∧ Aside0 (Kd.R (Kd.int .i64) 3 w' w.heap.size (fun _ => True) (.slice Ao51 t555.length co51) t555) ∧ Aside0 (Kd.R (Kd.int .i64) 3 w' w.heap.size (fun _ => True) (.slice Ao51 t555.length co51) t555) ∧ Aside0 (Below w.heap.size w w'))
            case atStart => exact ⟨(wrap64 ((t555.length : Int) - 1)), (0), z8_, z8_, H', ⟨Nat.le_refl _⟩, ⟨by (with_reducible repeat (first | apply Kd.R_alloc | apply Kd.R_drewN | apply Kd.R_drew)); exact HO_10.out⟩, ⟨by (with_reducible repeat (first | apply Kd.R_alloc | apply Kd.R_drewN | apply Kd.R_drew)); exact HO_17.out⟩, ⟨by (with_reducible repeat (first | apply Kd.R_alloc | apply Kd.R_drewN | apply Kd.R_drew)); exact HO_17.out⟩, ⟨by repeat (first | (with_reducible first | exact HB.out | apply below_alloc | apply pw_below_drewN | apply below_drew1) | exact HB.out)⟩⟩
            case round =>
             clear H'
             try clear c1
             try clear c2
             try clear p2
             try clear c3
             try clear c4
             try clear c5
             try clear p5
             try clear q5
             try clear hx5
             try clear p6
             try clear c7
             try clear c8
             try clear c9
             try clear c9b0
             try clear c9b1
             try clear c14
             try clear c14b0
             try clear c14b1
             try clear c14b2
             try clear c19
             try clear c20
             try clear c20b0
             try clear c21
             try clear c21b0
             try clear c22
             try clear c22b0
             try clear c29
             try clear c29b0
             try clear c29b1
             try clear c30
             try clear c31
             try clear c31b0
             try clear c32
             try clear c33
             try clear c33b0
             try clear c33b1
             try clear c34
             try clear c35
             try clear c35b0
             try clear c36
             try clear c36b0
             try clear c39
             try clear c40
             try clear c40b0
             try clear c41
             try clear c41b0
             try clear c48
             try clear c48b0
             try clear c48b1
             try clear c50
             try clear hcz26_0
             try clear hcz26_1
             try clear hcz26_2
             try clear hcz26_3
             try clear hcz26_4
             try clear hcz37_0
             try clear hcz37_1
             try clear hcz37_2
             try clear hcz37_3
             try clear hcz37_4
             try clear hcz38_0
             try clear hcz38_1
             try clear hcz38_2
             try clear hcz38_3
             try clear hcz38_4
             try clear hcz42_0
             try clear hcz42_1
             try clear hcz42_2
             try clear hcz42_3
             try clear hcz42_4
             try clear hcz43_0
             try clear hcz43_1
             try clear hcz43_2
             try clear hcz43_3
             try clear hcz43_4
             try clear hfz26_0
             try clear hfz26_1
             try clear hfz26_2
             try clear hfz26_3
             try clear hfz26_4
             try clear hfz37_0
             try clear hfz37_1
             try clear hfz37_2
             try clear hfz37_3
             try clear hfz37_4
             try clear hfz38_0
             try clear hfz38_1
             try clear hfz38_2
             try clear hfz38_3
             try clear hfz38_4
             try clear hfz42_0
             try clear hfz42_1
             try clear hfz42_2
             try clear hfz42_3
             try clear hfz42_4
             try clear hfz43_0
             try clear hfz43_1
             try clear hfz43_2
             try clear hfz43_3
             try clear hfz43_4
             try clear hx548_0
             try clear hx548_1
             try clear hx548_2
             try clear hx548_3
             try clear hx548_4
             try clear hx553_0
             try clear hx553_1
             try clear hx553_2
             try clear hx553_3
             try clear hx553_4
             try clear hx554_0
             try clear hx554_1
             try clear hx554_2
             try clear hx554_3
             try clear hx554_4
             try clear p2
             try clear p5
             try clear p548
             try clear p553
             try clear p554
             try clear p6
             try clear q5
             try clear q548
             try clear q553
             try clear q554
             obtain ⟨x19_4, x117_4, rfl, rfl, HA, HK4, HO_10, HO_17, HO_115, HB⟩ := hrel
             cases gk with
             | zero => exact absurd HA.out (by simp [formelaw10_TreeMoves.l1])
             | succ k4 =>
              have H := HA.out
              clear HA
              simp only [formelaw10_TreeMoves.l1] at H
              by_cases c52 : x117_4 < (t555.length : Int)
              ·rw [if_pos c52] at H
               have c52b0 : decide (x117_4 < (t555.length : Int)) = true := decide_eq_true c52
               clear c52
               by_cases c53 : 0 ≤ x117_4
               rotate_left
               ·rw [if_neg c53] at H; exact absurd H (by simp)
               rw [if_pos c53] at H
               have c53b0 : decide (0 ≤ x117_4) = true := decide_eq_true c53
               clear c53
               by_cases c54 : x117_4 < (t555.length : Int)
               rotate_left
               ·rw [if_neg c54] at H; exact absurd H (by simp)
               rw [if_pos c54] at H
               have c54b0 : decide (x117_4 < (t555.length : Int)) = true := decide_eq_true c54
               clear c54
               by_cases c55 : (rd t555 x117_4) = a3
               ·rw [if_pos c55] at H
                have c55b0 : ((rd t555 x117_4) == a3) = true := beq_iff_eq.mpr c55
                have c55b1 : ((rd t555 x117_4) != a3) = false := bne_eq_false_iff_eq.mpr c55
                clear c55
                have H' := Aside0.mk H
                clear H
                have p559 : 0 ≤ (x117_4 : Int) := of_decide_eq_true z3_
                have q559 : x117_4 < (t555.length : Int) := of_decide_eq_true z3_
                obtain ⟨ad559, e559, hx559_0⟩ := Kd.at_int (Kd.R_reads' HO_115.out).2.2 x117_4 p559 q559
                cases e559
                replace p559 := eq_true p559
                replace q559 := eq_true q559
                go_wp2
                repeat (go_quiet (fail); try go_wp2)
                go_roundg k4
                case measure => have := HJ9.out; have := HK2.out; have := HJ44.out; have := HK4.out; omega
                case rel => exact ⟨(wrap64 (x117_4 - 1)), (wrap64 (x117_4 + 1)), z8_, z8_, H', ⟨by have := HJ9.out; have := HK2.out; have := HJ44.out; have := HK4.out; omega⟩, ⟨by (with_reducible repeat (first | apply Kd.R_alloc | apply Kd.R_drewN | apply Kd.R_drew)); exact HO_10.out⟩, ⟨by (with_reducible repeat (first | apply Kd.R_alloc | apply Kd.R_drewN | apply Kd.R_drew)); exact HO_17.out⟩, ⟨by (with_reducible repeat (first | apply Kd.R_alloc | apply Kd.R_drewN | apply Kd.R_drew)); exact HO_115.out⟩, ⟨by repeat (first | (with_reducible first | exact HB.out | apply below_alloc | apply pw_below_drewN | apply below_drew1) | exact HB.out)⟩⟩
               ·rw [if_neg c55] at H
                have c55b0 : ((rd t555 x117_4) == a3) = false := beq_eq_false_iff_ne.mpr c55
                have c55b1 : ((rd t555 x117_4) != a3) = true := bne_iff_ne.mpr c55
                have H' := Aside0.mk H
                clear H
                have p559 : 0 ≤ (x117_4 : Int) := of_decide_eq_true z3_
                have q559 : x117_4 < (t555.length : Int) := of_decide_eq_true z3_
                obtain ⟨ad559, e559, hx559_0⟩ := Kd.at_int (Kd.R_reads' HO_115.out).2.2 x117_4 p559 q559
                cases e559
                replace p559 := eq_true p559
                replace q559 := eq_true q559
                go_wp2
                repeat (go_quiet (fail); try go_wp2)
                go_roundg k4
                case measure => have := HJ9.out; have := HK2.out; have := HJ44.out; have := HK4.out; omega
                case rel => exact ⟨(x19_4), (wrap64 (x117_4 + 1)), z8_, z8_, H', ⟨by have := HJ9.out; have := HK2.out; have := HJ44.out; have := HK4.out; omega⟩, ⟨by (with_reducible repeat (first | apply Kd.R_alloc | apply Kd.R_drewN | apply Kd.R_drew)); exact HO_10.out⟩, ⟨by (with_reducible repeat (first | apply Kd.R_alloc | apply Kd.R_drewN | apply Kd.R_drew)); exact HO_17.out⟩, ⟨by (with_reducible repeat (first | apply Kd.R_alloc | apply Kd.R_drewN | apply Kd.R_drew)); exact HO_115.out⟩, ⟨by repeat (first | (with_reducible first | exact HB.out | apply below_alloc | apply pw_below_drewN | apply below_drew1) | exact HB.out)⟩⟩
              ·rw [if_neg c52] at H
               have c52b0 : decide (x117_4 < (t555.length : Int)) = false := decide_eq_false c52
               clear c52
               by_cases c56 : x9_2 = true
               ·subst c56
                have H1 : (if x19_4 ≥ 0 then (if 0 ≤ x19_4 then (if x19_4 < (t555.length : Int) then (if (rd t555 x19_4) = a1 then ((formelaw10_alike.f l0 t543 a1).bind fun t561 => (some t561)) else (none)) else (none)) else (none)) else (none)) = some r := by rw [if_pos rfl] at H; exact H
                clear H
                have H := H1
                clear H1
                by_cases c57 : x19_4 ≥ 0
                rotate_left
                ·rw [if_neg c57] at H; exact absurd H (by simp)
                rw [if_pos c57] at H
                have c57b0 : decide (0 ≤ x19_4) = true := decide_eq_true c57
                clear c57
                by_cases c58 : 0 ≤ x19_4
                rotate_left
                ·rw [if_neg c58] at H; exact absurd H (by simp)
                rw [if_pos c58] at H
                have c58b0 : decide (0 ≤ x19_4) = true := decide_eq_true c58
                clear c58
                by_cases c59 : x19_4 < (t555.length : Int)
                rotate_left
                ·rw [if_neg c59] at H; exact absurd H (by simp)
                rw [if_pos c59] at H
                have c59b0 : decide (x19_4 < (t555.length : Int)) = true := decide_eq_true c59
                clear c59
                by_cases c60 : (rd t555 x19_4) = a1
                rotate_left
                ·rw [if_neg c60] at H; exact absurd H (by simp)
                rw [if_pos c60] at H
                have c60b0 : ((rd t555 x19_4) == a1) = true := beq_iff_eq.mpr c60
                have c60b1 : ((rd t555 x19_4) != a1) = false := bne_eq_false_iff_eq.mpr c60
                clear c60
                replace H := Option.bind_eq_some_iff.mp H
                obtain ⟨t561, A610, H⟩ := H
                try dsimp only at H
                have A61 := Aside0.mk A610
                clear A610
                obtain rfl := Option.some.inj H
                have p560 : 0 ≤ (x19_4 : Int) := of_decide_eq_true z3_
                have q560 : x19_4 < (t555.length : Int) := of_decide_eq_true z3_
                obtain ⟨ad560, e560, hx560_0⟩ := Kd.at_int (Kd.R_reads' HO_17.out).2.2 x19_4 p560 q560
                cases e560
                replace p560 := eq_true p560
                replace q560 := eq_true q560
                go_wp2_with (first | (go_at_call 28; (with_reducible refine (formelaw10_alike.calls _ _ l0 _ _ t543 a1 t561 _ ?side1 ?side2 ?side3 ?side4 A61.out).mono ?_); (case side1 => exact z4_); (case side2 => exact HC0.out); (case side3 => exact z28_); (case side4 => exact z40_); rintro e w62 ⟨rfl, hb⟩; have n0_ := Aside0.mk (Kd.R_below z29_ hb); have n1_ := Aside0.mk (Kd.R_below (by (with_reducible repeat (first | apply Kd.R_alloc | apply Kd.R_drewN | apply Kd.R_drew)); exact HO_17.out) hb); have n2_ := Aside0.mk (Kd.R_below (by (with_reducible repeat (first | apply Kd.R_alloc | apply Kd.R_drewN | apply Kd.R_drew)); exact HO_115.out) hb); have n3_ := Aside0.mk (below_step z1_ hb); clear HO_10; clear HO_17; clear HO_115; clear HB; have HO_10 := n0_; have HO_17 := n1_; have HO_115 := n2_; have HB := n3_; clear n0_ n1_ n2_ n3_; (try clear hb); (try clear hb2); (try clear hk); (try clear hi)))
                repeat (go_quiet (first | (go_at_call 28; (with_reducible refine (formelaw10_alike.calls _ _ l0 _ _ t543 a1 t561 _ ?side1 ?side2 ?side3 ?side4 A61.out).mono ?_); (case side1 => exact z4_); (case side2 => exact HC0.out); (case side3 => exact z28_); (case side4 => exact z40_); rintro e w62 ⟨rfl, hb⟩; have n0_ := Aside0.mk (Kd.R_below z29_ hb); have n1_ := Aside0.mk (Kd.R_below (by (with_reducible repeat (first | apply Kd.R_alloc | apply Kd.R_drewN | apply Kd.R_drew)); exact HO_17.out) hb); have n2_ := Aside0.mk (Kd.R_below (by (with_reducible repeat (first | apply Kd.R_alloc | apply Kd.R_drewN | apply Kd.R_drew)); exact HO_115.out) hb); have n3_ := Aside0.mk (below_step z1_ hb); clear HO_10; clear HO_17; clear HO_115; clear HB; have HO_10 := n0_; have HO_17 := n1_; have HO_115 := n2_; have HB := n3_; clear n0_ n1_ n2_ n3_; (try clear hb); (try clear hb2); (try clear hk); (try clear hi))); try go_wp2_with (first | (go_at_call 28; (with_reducible refine (formelaw10_alike.calls _ _ l0 _ _ t543 a1 t561 _ ?side1 ?side2 ?side3 ?side4 A61.out).mono ?_); (case side1 => exact z4_); (case side2 => exact HC0.out); (case side3 => exact z28_); (case side4 => exact z40_); rintro e w62 ⟨rfl, hb⟩; have n0_ := Aside0.mk (Kd.R_below z29_ hb); have n1_ := Aside0.mk (Kd.R_below (by (with_reducible repeat (first | apply Kd.R_alloc | apply Kd.R_drewN | apply Kd.R_drew)); exact HO_17.out) hb); have n2_ := Aside0.mk (Kd.R_below (by (with_reducible repeat (first | apply Kd.R_alloc | apply Kd.R_drewN | apply Kd.R_drew)); exact HO_115.out) hb); have n3_ := Aside0.mk (below_step z1_ hb); clear HO_10; clear HO_17; clear HO_115; clear HB; have HO_10 := n0_; have HO_17 := n1_; have HO_115 := n2_; have HB := n3_; clear n0_ n1_ n2_ n3_; (try clear hb); (try clear hb2); (try clear hk); (try clear hi))))
                go_ret
                exact ⟨by first | rfl | (simp [errW_none, errW_some] <;> rfl) | (simp [*, errW_none, errW_some] <;> rfl), by repeat (first | (with_reducible first | exact HB.out | apply below_alloc | apply pw_below_drewN | apply below_drew1) | exact HB.out)⟩
               ·replace c56 := Bool.eq_false_iff.mpr c56
                subst c56
                have H1 : (none) = some r := by rw [if_neg (show ¬ (false = true) by decide)] at H; exact H
                clear H
                have H := H1
                clear H1
                exact absurd H (by simp)
  ·rw [if_neg c9] at H
   have c9b0 : (t544 == 0) = false := beq_eq_false_iff_ne.mpr c9
   have c9b1 : (t544 != 0) = true := bne_iff_ne.mpr c9
   by_cases c63 : t541 = true
   ·subst c63
    have H1 : (some ((t543.length : Int) == 0)) = some r := by rw [if_pos rfl] at H; exact H
    clear H
    have H := H1
    clear H1
    obtain rfl := Option.some.inj H
    go_enter Try.func8, Try.ntmps8
    go_wp2_with (first | (go_at_call 9; (with_reducible refine (formelaw10_head.calls k  true _ A5.out).mono ?_); rintro e w64 ⟨rfl, hb⟩; have n0_ := Aside0.mk (below_step z1_ hb); clear HB; have HB := n0_; clear n0_; (try clear hb); (try clear hb2); (try clear hk); (try clear hi)) | (go_at_call 27; (with_reducible refine (formelaw10_usable.calls k _ _ l0 true _ ?side1 ?side2 A6.out).mono ?_); (case side1 => exact z4_); (case side2 => exact HC0.out); rintro e w65 ⟨rfl, hb⟩; have n0_ := Aside0.mk (below_step z1_ hb); clear HB; have HB := n0_; clear n0_; (try clear hb); (try clear hb2); (try clear hk); (try clear hi)) | (go_at_call 25; (with_reducible refine (tree_Move.calls _ _ l0 a1 a2 a3 t543 t544 _ ?side1 ?side2 A8.out).mono ?_); (case side1 => exact z4_); (case side2 => exact HC0.out); rintro e w66 ⟨v545, rfl, ho0, hb⟩; have n0_ := Aside0.mk (Kd.R_lower ho0 (below_size z1_)); have n1_ := Aside0.mk (below_step z1_ hb); clear HB; have HO546 := n0_; have HB := n1_; clear n0_ n1_; (try clear hb); (try clear hb2); (try clear hk); (try clear hi); (try clear ho0); obtain ⟨Ao67, co67, eo67⟩ := Kd.R_slice HO546.out; subst eo67))
    repeat (go_quiet (first | (go_at_call 9; (with_reducible refine (formelaw10_head.calls k  true _ A5.out).mono ?_); rintro e w64 ⟨rfl, hb⟩; have n0_ := Aside0.mk (below_step z1_ hb); clear HB; have HB := n0_; clear n0_; (try clear hb); (try clear hb2); (try clear hk); (try clear hi)) | (go_at_call 27; (with_reducible refine (formelaw10_usable.calls k _ _ l0 true _ ?side1 ?side2 A6.out).mono ?_); (case side1 => exact z4_); (case side2 => exact HC0.out); rintro e w65 ⟨rfl, hb⟩; have n0_ := Aside0.mk (below_step z1_ hb); clear HB; have HB := n0_; clear n0_; (try clear hb); (try clear hb2); (try clear hk); (try clear hi)) | (go_at_call 25; (with_reducible refine (tree_Move.calls _ _ l0 a1 a2 a3 t543 t544 _ ?side1 ?side2 A8.out).mono ?_); (case side1 => exact z4_); (case side2 => exact HC0.out); rintro e w66 ⟨v545, rfl, ho0, hb⟩; have n0_ := Aside0.mk (Kd.R_lower ho0 (below_size z1_)); have n1_ := Aside0.mk (below_step z1_ hb); clear HB; have HO546 := n0_; have HB := n1_; clear n0_ n1_; (try clear hb); (try clear hb2); (try clear hk); (try clear hi); (try clear ho0); obtain ⟨Ao67, co67, eo67⟩ := Kd.R_slice HO546.out; subst eo67)); try go_wp2_with (first | (go_at_call 9; (with_reducible refine (formelaw10_head.calls k  true _ A5.out).mono ?_); rintro e w64 ⟨rfl, hb⟩; have n0_ := Aside0.mk (below_step z1_ hb); clear HB; have HB := n0_; clear n0_; (try clear hb); (try clear hb2); (try clear hk); (try clear hi)) | (go_at_call 27; (with_reducible refine (formelaw10_usable.calls k _ _ l0 true _ ?side1 ?side2 A6.out).mono ?_); (case side1 => exact z4_); (case side2 => exact HC0.out); rintro e w65 ⟨rfl, hb⟩; have n0_ := Aside0.mk (below_step z1_ hb); clear HB; have HB := n0_; clear n0_; (try clear hb); (try clear hb2); (try clear hk); (try clear hi)) | (go_at_call 25; (with_reducible refine (tree_Move.calls _ _ l0 a1 a2 a3 t543 t544 _ ?side1 ?side2 A8.out).mono ?_); (case side1 => exact z4_); (case side2 => exact HC0.out); rintro e w66 ⟨v545, rfl, ho0, hb⟩; have n0_ := Aside0.mk (Kd.R_lower ho0 (below_size z1_)); have n1_ := Aside0.mk (below_step z1_ hb); clear HB; have HO546 := n0_; have HB := n1_; clear n0_ n1_; (try clear hb); (try clear hb2); (try clear hk); (try clear hi); (try clear ho0); obtain ⟨Ao67, co67, eo67⟩ := Kd.R_slice HO546.out; subst eo67)))
    go_ret
    exact ⟨by first | rfl | (simp [errW_none, errW_some] <;> rfl) | (simp [*, errW_none, errW_some] <;> rfl), by repeat (first | (with_reducible first | exact HB.out | apply below_alloc | apply pw_below_drewN | apply below_drew1) | exact HB.out)⟩
   ·replace c63 := Bool.eq_false_iff.mpr c63
    subst c63
    have H1 : (none) = some r := by rw [if_neg (show ¬ (false = true) by decide)] at H; exact H
    clear H
    have H := H1
    clear H1
    exact absurd H (by simp)
 ·replace c7 := Bool.eq_false_iff.mpr c7
  subst c7
  have H1 : (some t541) = some r := by rw [if_neg (show ¬ (false = true) by decide)] at H; exact H
  clear H
  have H := H1
  clear H1
  obtain rfl := Option.some.inj H
  go_enter Try.func8, Try.ntmps8
  go_wp2_with (first | (go_at_call 9; (with_reducible refine (formelaw10_head.calls k  t541 _ A5.out).mono ?_); rintro e w68 ⟨rfl, hb⟩; have n0_ := Aside0.mk (below_step z1_ hb); clear HB; have HB := n0_; clear n0_; (try clear hb); (try clear hb2); (try clear hk); (try clear hi)) | (go_at_call 27; (with_reducible refine (formelaw10_usable.calls k _ _ l0 false _ ?side1 ?side2 A6.out).mono ?_); (case side1 => exact z4_); (case side2 => exact HC0.out); rintro e w69 ⟨rfl, hb⟩; have n0_ := Aside0.mk (below_step z1_ hb); clear HB; have HB := n0_; clear n0_; (try clear hb); (try clear hb2); (try clear hk); (try clear hi)))
  repeat (go_quiet (first | (go_at_call 9; (with_reducible refine (formelaw10_head.calls k  t541 _ A5.out).mono ?_); rintro e w68 ⟨rfl, hb⟩; have n0_ := Aside0.mk (below_step z1_ hb); clear HB; have HB := n0_; clear n0_; (try clear hb); (try clear hb2); (try clear hk); (try clear hi)) | (go_at_call 27; (with_reducible refine (formelaw10_usable.calls k _ _ l0 false _ ?side1 ?side2 A6.out).mono ?_); (case side1 => exact z4_); (case side2 => exact HC0.out); rintro e w69 ⟨rfl, hb⟩; have n0_ := Aside0.mk (below_step z1_ hb); clear HB; have HB := n0_; clear n0_; (try clear hb); (try clear hb2); (try clear hk); (try clear hi))); try go_wp2_with (first | (go_at_call 9; (with_reducible refine (formelaw10_head.calls k  t541 _ A5.out).mono ?_); rintro e w68 ⟨rfl, hb⟩; have n0_ := Aside0.mk (below_step z1_ hb); clear HB; have HB := n0_; clear n0_; (try clear hb); (try clear hb2); (try clear hk); (try clear hi)) | (go_at_call 27; (with_reducible refine (formelaw10_usable.calls k _ _ l0 false _ ?side1 ?side2 A6.out).mono ?_); (case side1 => exact z4_); (case side2 => exact HC0.out); rintro e w69 ⟨rfl, hb⟩; have n0_ := Aside0.mk (below_step z1_ hb); clear HB; have HB := n0_; clear n0_; (try clear hb); (try clear hb2); (try clear hk); (try clear hi))))
  go_ret
  exact ⟨by first | rfl | (simp [errW_none, errW_some] <;> rfl) | (simp [*, errW_none, errW_some] <;> rfl), by repeat (first | (with_reducible first | exact HB.out | apply below_alloc | apply pw_below_drewN | apply below_drew1) | exact HB.out)⟩
end Go.Proofs.Ytpafhhgoldenoaa.P
end
section
namespace Go.Proofs.Ytpafhhgoldenoaa.P
open Go.RowKit Go.Proofs.YtpafhhgoldenoaaW.PrintWords Go.Proofs.YtpafhhgoldenoaaW.PrintLast Go.Proofs.YtpafhhgoldenoaaW.PrintMore
open Go.Proofs.Ytpafhhgoldenoaa.XM
set_option linter.unusedVariables false
set_option linter.unusedSimpArgs false
variable {l : List S24} {ds : Nat → Int} {D : Places}
theorem rd_at {ks : List Int} {q : Nat} (h : q < ks.length) : rd ks (q : Int) = ks[q] := by simp [rd, h]
theorem moves_end (l out ks : List S24) (kd : List Int) (id par b : Int) (pl : Nat) (hpl : pl < kd.length) (hid : rd kd (pl : Int) = id) (ha : formelaw10_alike.f l out id = some true) :
  Ev (fun k => formelaw10_TreeMoves.l1 k l id b true out kd (pl : Int) kd (kd.length : Int) (kd.length : Int)) true := by
 refine Ev.up ?_
 simp only [formelaw10_TreeMoves.l1]
 refine Ev.els (by omega) (Ev.thn trivial (Ev.thn (by omega) (Ev.thn (by omega) (Ev.thn (by omega) (Ev.thn hid ?_)))))
 exact Ev.obind ha (Ev.now _)
theorem moves_skip (l out : List S24) (kd : List Int) (id b : Int) (hk : kd.length ≤ 4000) (pl : Int) (q2 : Nat) (hq2 : q2 ≤ kd.length)
  (h : Ev (fun k => formelaw10_TreeMoves.l1 k l id b true out kd pl kd (kd.length : Int) (q2 : Int)) true) : ∀ (d q : Nat), q ≤ q2 → q2 - q ≤ d → (∀ r, q ≤ r → r < q2 → rd kd (r : Int) ≠ b) →
  Ev (fun k => formelaw10_TreeMoves.l1 k l id b true out kd pl kd (kd.length : Int) (q : Int)) true := by
 intro d
 induction d with
 | zero =>
  intro q h1 h2 _
  obtain rfl : q = q2 := by omega
  exact h
 | succ d ih =>
  intro q h1 h2 hn
  by_cases e : q = q2
  ·subst e; exact h
  ·refine Ev.up ?_
   simp only [formelaw10_TreeMoves.l1]
   refine Ev.thn (by omega) (Ev.thn (by omega) (Ev.thn (by omega) (Ev.els (hn q (Nat.le_refl _) (by omega)) ?_)))
   rw [w64n q (by omega)]
   exact ih (q + 1) (by omega) (by omega) (fun r hr hr2 => hn r (by omega) hr2)
theorem moves_hit (l out : List S24) (kd : List Int) (id b : Int) (hk : kd.length ≤ 4000) (pl : Int) (q : Nat) (hq : q < kd.length) (hq0 : 0 < q) (hb : rd kd (q : Int) = b)
  (h : Ev (fun k => formelaw10_TreeMoves.l1 k l id b true out kd ((q - 1 : Nat) : Int) kd (kd.length : Int) ((q + 1 : Nat) : Int)) true) :
  Ev (fun k => formelaw10_TreeMoves.l1 k l id b true out kd pl kd (kd.length : Int) (q : Int)) true := by
 refine Ev.up ?_
 simp only [formelaw10_TreeMoves.l1]
 refine Ev.thn (by omega) (Ev.thn (by omega) (Ev.thn (by omega) (Ev.thn hb ?_)))
 rw [w64n q (by omega), show wrap64 ((q : Int) - 1) = ((q - 1 : Nat) : Int) by unfold wrap64; omega]
 exact h
theorem rd_mem {kd : List Int} {r : Nat} (h : r < kd.length) : rd kd (r : Int) ∈ kd := by rw [rd_at h]; exact List.getElem_mem h
theorem moves_place (l out : List S24) (kd : List Int) (id b : Int) (hk : kd.length ≤ 4000) (hnd : kd.Nodup) (ha : formelaw10_alike.f l out id = some true)
  (hf : (b ∉ kd ∧ ∃ A, kd = A ++ [id]) ∨ ∃ A B, kd = A ++ id :: b :: B) :
  Ev (fun k => formelaw10_TreeMoves.l1 k l id b true out kd (wrap64 ((kd.length : Int) - 1)) kd (kd.length : Int) 0) true := by
 rcases hf with ⟨hb, A, rfl⟩ | ⟨A, B, rfl⟩
 ·have e : wrap64 (((A ++ [id]).length : Int) - 1) = (A.length : Int) := by simp at hk ⊢; unfold wrap64; omega
  rw [e]
  have hlen : A.length < (A ++ [id]).length := by simp
  refine moves_skip l out _ id b hk _ _ (Nat.le_refl _) (moves_end l out [] _ id 0 b A.length hlen ?_ ha) _ 0 (Nat.zero_le _) (Nat.le_refl _) (fun r _ hr c => hb (by rw [← c]; exact rd_mem hr))
  rw [rd_at hlen]; simp
 ·have hlen : A.length + 1 < (A ++ id :: b :: B).length := by simp
  have hlen0 : A.length < (A ++ id :: b :: B).length := by omega
  have e1 : rd (A ++ id :: b :: B) ((A.length + 1 : Nat) : Int) = b := by rw [rd_at hlen]; simp [List.getElem_append_right]
  have e0 : rd (A ++ id :: b :: B) ((A.length : Nat) : Int) = id := by rw [rd_at hlen0]; simp
  have other : ∀ r, r < (A ++ id :: b :: B).length → r ≠ A.length + 1 → rd (A ++ id :: b :: B) (r : Int) ≠ b := by
   intro r hr hne c
   rw [rd_at hr] at c
   rw [rd_at hlen] at e1
   exact hne (nodup_idx hnd hr hlen (c.trans e1.symm))
  refine moves_skip l out _ id b hk _ (A.length + 1) (by omega) ?_ _ 0 (Nat.zero_le _) (Nat.le_refl _) (fun r _ hr => other r (by omega) (by omega))
  refine moves_hit l out _ id b hk _ (A.length + 1) hlen (by omega) e1 ?_
  refine moves_skip l out _ id b hk _ _ (Nat.le_refl _) ?_ _ (A.length + 1 + 1) (by omega) (Nat.le_refl _) (fun r h1 h2 => other r h2 (by omega))
  exact moves_end l out [] _ id 0 b A.length hlen0 e0 ha
theorem moves_l0 (T : TreeAt l ds) {id par b : Int} {out : List S24} {i k q : Nat} {tk : List S24} (M : Moved l ds id par b out i k q tk) {D' : Places} {ds' : Nat → Int} (hD' : placesP out = some D') (T' : TreeAt out ds') (P' : PAt out ds' out.length D')
  (fin : Ev (fun n => formelaw10_TreeMoves.l0 n l id par b true out l (l.length : Int) (l.length : Int)) true) : ∀ (d j : Nat), j ≤ l.length → l.length - j ≤ d →
  Ev (fun n => formelaw10_TreeMoves.l0 n l id par b true out l (l.length : Int) (j : Int)) true := by
 have hl := T.len
 intro d
 induction d with
 | zero =>
  intro j hj hd
  obtain rfl : j = l.length := by omega
  exact fin
 | succ d ih =>
  intro j hj hd
  by_cases hlt : j < l.length
  ·obtain ⟨u, hu, eu⟩ := mem_nd (M.there T hlt)
   have hfu : (nd out u).f0 = (nd l j).f0 := by
    rw [eu]
    by_cases c : j = i
    ·subst c; rw [if_pos rfl]; rfl
    ·rw [if_neg c]
   have hfind : tree_Find.f out (rd_T24 l (j : Int)).f0 = some ((u : Int), true, 0) := by
    unfold tree_Find.f
    rw [show (rd_T24 l (j : Int)).f0 = (nd out u).f0 from hfu.symm, find_at' hD' T' P' hu]
   refine Ev.up ?_
   simp only [formelaw10_TreeMoves.l0]
   refine Ev.thn (by omega) (Ev.thn (by omega) (Ev.thn (by omega) (Ev.obind hfind (Ev.thn rfl (Ev.thn rfl (Ev.els (by simp) ?_))))))
   have key := ih (j + 1) hlt (by omega)
   refine Ev.up ?_
   simp only [formelaw10_TreeMoves.j2]
   refine Ev.els (by simp; omega) ?_
   rw [w64n j (by omega)]
   by_cases c : j = i
   ·subst c
    rw [if_pos rfl] at eu
    have hru : rd_T24 out (u : Int) = reparent (nd l j) par := eu
    refine Ev.thn M.eid (Ev.thn trivial (Ev.thn (by omega) (Ev.thn (by omega) ?_)))
    rw [hru]
    simpa [reparent] using key
   ·rw [if_neg c] at eu
    have hru : rd_T24 out (u : Int) = nd l j := eu
    refine Ev.els (fun z => c (T.inj hlt M.hi (show (nd l j).f0 = (nd l i).f0 by rw [M.eid]; exact z))) (Ev.thn trivial (Ev.thn (by omega) (Ev.thn (by omega) ?_)))
    rw [hru]
    simpa using key
  ·obtain rfl : j = l.length := by omega
   exact fin
theorem moves_pure (l : List S24) (id par b : Int) (hs : ∀ j, j < l.length → (nd l j).f4.size ≤ 9223372036854775807) (_ : -9223372036854775808 ≤ id ∧ id ≤ 9223372036854775807) (_ : -9223372036854775808 ≤ par ∧ par ≤ 9223372036854775807) (_ : -9223372036854775808 ≤ b ∧ b ≤ 9223372036854775807) :
  ∃ k, formelaw10_TreeMoves.f k l id par b = some true := by
 refine Ev.rounds (g := fun k => formelaw10_TreeMoves.f k l id par b) ?_
 unfold formelaw10_TreeMoves.f
 refine Ev.bind head_true ?_
 rcases usable_cases l hs with h | ⟨h, hl, D, ds, hD, T, P⟩
 ·exact Ev.bind h (Ev.els (by simp) (Ev.now _))
 refine Ev.bind h (Ev.thn rfl ?_)
 obtain ⟨⟨out, e⟩, m1, _, _⟩ := refMove l hs id par b
 refine Ev.obind (show tree_Move.f l id par b = some (out, e) from m1) ?_
 rcases move_out m1 with ⟨he, ho⟩ | ⟨he, _⟩
 ·subst ho
  exact Ev.els he (Ev.thn rfl (Ev.const rfl))
 subst he
 obtain ⟨i, k, q, tk, M, hv, hp⟩ := moved_of T P hD m1
 obtain ⟨D', hD'⟩ := Option.isSome_iff_exists.1 hv
 obtain ⟨ds', T', P'⟩ := placesP_tree hD'
 have hlen : out.length = l.length := by
  have hsp := splitP_len l id
  have hid1 : 1 ≤ id := by have := T.id M.hi; rw [M.eid] at this; exact this.1
  rw [split_sel T id hid1, M.tkp] at hsp
  simp only [List.length_cons] at hsp
  have hq := M.hq
  rw [M.form]
  simp only [List.length_append, List.length_take, List.length_drop, List.length_cons]
  omega
 refine Ev.thn rfl (Ev.thn (by simp [hlen]) (Ev.obind (show tree_Valid.f out = some true by unfold tree_Valid.f; rw [hv]) ?_))
 refine Ev.up ?_
 simp only [formelaw10_TreeMoves.j0]
 refine Ev.els (by simp) ?_
 have ha := alike_of l out id (by omega) (by omega) (M.alike T)
 refine moves_l0 T M hD' T' P' ?_ l.length 0 (by omega) (by omega)
 refine Ev.up ?_
 simp only [formelaw10_TreeMoves.l0]
 refine Ev.els (by omega) ?_
 have hki : k ≠ i := by
  intro c
  have h1 := in_own T M.hi
  rw [M.eid, ← c, M.out_in] at h1
  cases h1
 obtain ⟨u, hu, eu⟩ := mem_nd (M.there T M.hk)
 rw [if_neg hki] at eu
 have hfind : findP out par = ((u : Int), true, 0) := by rw [show par = (nd out u).f0 by rw [eu, M.epar], find_at' hD' T' P' hu]
 have hkr : kidsR out par = (kidsL out par, 0) := by unfold kidsR; rw [hfind]; simp
 have hke := Kids_ev out par
 rw [hkr] at hke
 refine Ev.bind hke (Ev.thn rfl ?_)
 have hkl := kidsL_len out par
 have hkids := M.kids T hp
 have hne : ((kidsL out par).length : Int) ≠ 0 := by
  rcases hkids with ⟨_, A, h1⟩ | ⟨_, A, B, h1⟩ <;> rw [h1] <;> simp <;> omega
 refine Ev.up ?_
 simp only [formelaw10_TreeMoves.j3]
 refine Ev.els (by simpa using hne) ?_
 refine moves_place l out (kidsL out par) id b (by omega) (kidsL_nodup T' par) ha ?_
 rcases hkids with ⟨hb, A, h1⟩ | ⟨_, A, B, h1⟩
 ·refine .inl ⟨?_, A, h1⟩
  intro c
  obtain ⟨j, hj, _, ej⟩ := kid_mem.1 c
  have := T'.id hj
  omega
 ·exact .inr ⟨A, B, h1⟩
end Go.Proofs.Ytpafhhgoldenoaa.P
end
section
namespace Go.Proofs.Ytpafhhgoldenoaa.treeMoves
open Go.ChangeShapes Go.WideShapes Go.ChangeAt Go.RowKit
open Go.ChangeMaps (open_string shut_string)
open Go.Proofs.Ytpafhhgoldenoaa.P
set_option linter.unusedVariables false
set_option maxRecDepth 100000 in
theorem lifted (os : Os) (started : os.Started) (H : Type) (enc : TypeId × Value → H) :
  ReturnsInHanded {} Try.checked os 8 .any (Rows.treeMovesSpec.pre6 enc Try.prog Try.f8 Rows.treeMovesRow.domain false) (Rows.treeMovesSpec.post enc Try.prog Try.f8 false true false false) := by
 refine returnsInHanded_of_change_sized (C := Try.checked) own started (by kernel_rfl) Try.func8
  (ChangeSpec.witness6 (enc := enc) (C := Try.checked) false ⟨#[], #[.slice none 0 0, .int .i64 0, .int .i64 0, .int .i64 0], []⟩ 8 (by kernel_rfl) (by kernel_rfl) (by kernel_rfl) (by kernel_rfl)) ?_
 intro W base args ds gs before hval0 hW hcnd hsz0 _
 have hval : ∀ (j : Nat) t v, Try.f8.params[j]? = some t → args[j]? = some v → Value.okWide Try.prog W .any base t v := hval0
 have hW' := hW
 obtain ⟨p, q, hA0, hV, rfl, hfz, hnd⟩ := hW
 have hA : DataW.TrodAll enc Try.prog W 0 (fun _ => true) true Try.f8.params.toList args.toList ds p := hA0
 rw [Try.params8] at hA hval
 obtain ⟨v0, vs0, d0, ds0, p0, q0, hargs, rfl, rfl, h0, r0⟩ := trodAll_cons hA
 obtain ⟨v1, vs1, d1, ds1, p1, q1, rfl, rfl, rfl, h1, r1⟩ := trodAll_cons r0
 obtain ⟨v2, vs2, d2, ds2, p2, q2, rfl, rfl, rfl, h2, r2⟩ := trodAll_cons r1
 obtain ⟨v3, vs3, d3, ds3, p3, q3, rfl, rfl, rfl, h3, r3⟩ := trodAll_cons r2
 obtain ⟨rfl, rfl, rfl⟩ := trodAll_nil r3
 obtain rfl : args = #[v0, v1, v2, v3] := by cases args; simp_all
 obtain ⟨rfl, rfl⟩ := trodVars_none hV
 have k0 := h0
 have lt0 : ∀ x ∈ p0, x.block < W.heap.size := by obtain ⟨m, hm⟩ := k0; exact DataW.trod_lt m _ _ _ hm
 obtain ⟨A0, l0, c0, rfl, hr0, hc0, hs0⟩ := open_nodes (hval 0 22 v0 rfl rfl) h0
 obtain ⟨a1, rfl, rfl, rfl, w1⟩ := open_int Try.underlying3 (hval 1 3 v1 rfl rfl) h1
 obtain ⟨a2, rfl, rfl, rfl, w2⟩ := open_int Try.underlying3 (hval 2 3 v2 rfl rfl) h2
 obtain ⟨a3, rfl, rfl, rfl, w3⟩ := open_int Try.underlying3 (hval 3 3 v3 rfl rfl) h3
 clear hA0 hval0 hsz0
 obtain ⟨k, h⟩ := moves_pure l0 a1 a2 a3 (fun j hj => hs0 _ (by simp [rd_T24, hj])) (i64_wf w1) (i64_wf w2) (i64_wf w3)
 refine (formelaw10_TreeMoves.calls k A0 c0 l0 a1 a2 a3 true W hr0 hc0 h).mono fun e W' ⟨he, bel⟩ => ?_
 subst he
 exact ⟨_, rfl, _, _, _, [], _, [], hW', trodAll_mk1 (shut_bool Try.underlying4 _), (trodAll_cons_mk (Below.trod laidOut (by kernel_rfl) (of_decide_eq_true (by kernel_rfl)) k0 bel lt0) (trodAll_cons_mk (shut_int Try.underlying3 w1) (trodAll_cons_mk (shut_int Try.underlying3 w2) (trodAll_cons_mk (shut_int Try.underlying3 w3) trodAll_mk0)))), rfl, bel.frame _, fun h => by cases h⟩
theorem over : Rows.treeMovesRow.holds Try.pinned (OpenSpec.ofChange Rows.treeMovesSpec) :=
 OpenClaim.holds_of_wide 8 Try.f8 rfl rfl rfl rfl rfl rfl rfl ⟨rfl, rfl, rfl, rfl, rfl⟩ rfl rfl rfl rfl rfl (by kernel_rfl) Try.func8 (by kernel_rfl)
  (of_decide_eq_true (by kernel_rfl)) (by unfold Func.isWrapper; first | (rw [if_pos (by decide +kernel)]; kernel_rfl) | (rw [if_neg (by decide +kernel)]; exact ⟨rfl, rfl⟩))
  (fun os started H enc _ => lifted os started H enc)
theorem proved : Rows.TreeMovesSaid := over
#print axioms proved
end Go.Proofs.Ytpafhhgoldenoaa.treeMoves
namespace Go.Proofs.Ytpafhhgoldenoaa
theorem treeMoves_holds : Rows.TreeMovesSaid := treeMoves.proved
end Go.Proofs.Ytpafhhgoldenoaa
end

import Derived.Test.YtpafhhgoldenoaaMatches4
/- Laws that the proof of Matches uses. -/
section
namespace Go.Proofs.Ytpafhhgoldenoaa.P
open Go.RowKit Go.Proofs.YtpafhhgoldenoaaW.PrintWords Go.Proofs.YtpafhhgoldenoaaW.PrintLast Go.Proofs.YtpafhhgoldenoaaW.PrintMore
attribute [local go_sem] max2_int min2_int max_two min_two max_three min_three max_four min_four
set_option linter.unusedVariables false
set_option linter.unusedSimpArgs false
def formeref10_put.f (k : Nat) (l0 : List (S24)) (l1 : List (S24)) (a2 : Int) : Option ((List (S24))) := if a2 = 0 then (if 0 ≤ (l0.length : Int) then (if (l0.length : Int) ≤ (l0.length : Int) then ((some (l0.take ((l0.length : Int) : Int).toNat : List (S24))).bind fun y286 => (if ([] : List (S24)).length + y286.length < 2932031007402 then ((some (([] : List (S24)) ++ y286 : List (S24))).bind fun y290 => (if y290.length + l1.length < 2932031007402 then ((some (y290 ++ l1 : List (S24))).bind fun y293 => ((some (l0.drop ((l0.length : Int) : Int).toNat : List (S24))).bind fun y296 => (if y293.length + y296.length < 2932031007402 then (some (y293 ++ y296)) else (none)))) else (none))) else (none))) else (none)) else (none)) else ((formeref10_Index.f k l0 a2).bind fun t303 => (if 0 ≤ t303 then (if t303 ≤ (l0.length : Int) then ((some (l0.take (t303 : Int).toNat : List (S24))).bind fun y304 => (if ([] : List (S24)).length + y304.length < 2932031007402 then ((some (([] : List (S24)) ++ y304 : List (S24))).bind fun y308 => (if y308.length + l1.length < 2932031007402 then ((some (y308 ++ l1 : List (S24))).bind fun y311 => ((some (l0.drop (t303 : Int).toNat : List (S24))).bind fun y314 => (if y311.length + y314.length < 2932031007402 then (some (y311 ++ y314)) else (none)))) else (none))) else (none))) else (none)) else (none)))
theorem formeref10_put.mono : ∀ a0 a1 a2 k, LeO (formeref10_put.f k a0 a1 a2) (formeref10_put.f (k + 1) a0 a1 a2) := by
 intro a0 a1 a2 k
 unfold formeref10_put.f
 repeat' first
   | (with_reducible exact formeref10_Index.mono _ _ _)
   | (with_reducible exact LeO.refl _)
   | (with_reducible exact LeO.none _)
   | (with_reducible refine LeO.ite ?_ ?_)
   | (with_reducible refine LeO.bind ?_ (fun _ => ?_))
   | exact formeref10_Index.mono _ _ _
   | exact LeO.none _
   | refine LeO.ite ?_ ?_
   | refine LeO.bind ?_ (fun _ => ?_)
set_option maxHeartbeats 8000000 in
set_option maxRecDepth 100000 in
theorem formeref10_put.calls (k : Nat) (A0 : Option Addr) (c0 : Nat) (l0 : List (S24)) (A1 : Option Addr) (c1 : Nat) (l1 : List (S24)) (a2 : Int) (r : List (S24)) (w : World) (hr0 : Kd.C k24 w A0 l0.length l0) (hc0 : l0.length ≤ c0) (hr1 : Kd.C k24 w A1 l1.length l1) (hc1 : l1.length ≤ c1) (h : formeref10_put.f k l0 l1 a2 = some r) :
  Calls Try.prog 47 #[.slice A0 l0.length c0, .slice A1 l1.length c1, .int .i64 a2] w fun e w' => ∃ v0_ : Value, e = .returned (v0_) ∧ Kd.R k24 24 w' w.heap.size (fun _ => True) v0_ r ∧ Below w.heap.size w w' := by
 have HR0 := Aside0.mk hr0
 have HC0 := Aside0.mk hc0
 clear hr0 hc0
 have HR1 := Aside0.mk hr1
 have HC1 := Aside0.mk hc1
 clear hr1 hc1
 have HB := Aside0.mk (Below.refl w.heap.size w)
 have H : (if a2 = 0 then (if 0 ≤ (l0.length : Int) then (if (l0.length : Int) ≤ (l0.length : Int) then ((some (l0.take ((l0.length : Int) : Int).toNat : List (S24))).bind fun y286 => (if ([] : List (S24)).length + y286.length < 2932031007402 then ((some (([] : List (S24)) ++ y286 : List (S24))).bind fun y290 => (if y290.length + l1.length < 2932031007402 then ((some (y290 ++ l1 : List (S24))).bind fun y293 => ((some (l0.drop ((l0.length : Int) : Int).toNat : List (S24))).bind fun y296 => (if y293.length + y296.length < 2932031007402 then (some (y293 ++ y296)) else (none)))) else (none))) else (none))) else (none)) else (none)) else ((formeref10_Index.f k l0 a2).bind fun t303 => (if 0 ≤ t303 then (if t303 ≤ (l0.length : Int) then ((some (l0.take (t303 : Int).toNat : List (S24))).bind fun y304 => (if ([] : List (S24)).length + y304.length < 2932031007402 then ((some (([] : List (S24)) ++ y304 : List (S24))).bind fun y308 => (if y308.length + l1.length < 2932031007402 then ((some (y308 ++ l1 : List (S24))).bind fun y311 => ((some (l0.drop (t303 : Int).toNat : List (S24))).bind fun y314 => (if y311.length + y314.length < 2932031007402 then (some (y311 ++ y314)) else (none)))) else (none))) else (none))) else (none)) else (none)))) = some r := h
 clear h
 by_cases c4 : a2 = 0
 ·rw [if_pos c4] at H
  have c4b0 : (a2 == 0) = true := beq_iff_eq.mpr c4
  have c4b1 : (a2 != 0) = false := bne_eq_false_iff_eq.mpr c4
  clear c4
  by_cases c5 : 0 ≤ (l0.length : Int)
  rotate_left
  ·rw [if_neg c5] at H; exact absurd H (by simp)
  rw [if_pos c5] at H
  have c5b0 := eq_true c5
  have c5b1 : decide (0 ≤ (l0.length : Int)) = true := decide_eq_true c5
  clear c5
  by_cases c6 : (l0.length : Int) ≤ (l0.length : Int)
  rotate_left
  ·rw [if_neg c6] at H; exact absurd H (by simp)
  rw [if_pos c6] at H
  have c6b0 := eq_true c6
  have c6b1 : decide ((l0.length : Int) ≤ (l0.length : Int)) = true := decide_eq_true c6
  clear c6
  obtain ⟨y286, hy286⟩ : ∃ y_ : List (S24), y_ = (l0.take ((l0.length : Int) : Int).toNat) := ⟨_, rfl⟩
  replace H : (if ([] : List (S24)).length + y286.length < 2932031007402 then ((some (([] : List (S24)) ++ y286 : List (S24))).bind fun y290 => (if y290.length + l1.length < 2932031007402 then ((some (y290 ++ l1 : List (S24))).bind fun y293 => ((some (l0.drop ((l0.length : Int) : Int).toNat : List (S24))).bind fun y296 => (if y293.length + y296.length < 2932031007402 then (some (y293 ++ y296)) else (none)))) else (none))) else (none)) = some r := by first | (rw [hy286]; with_reducible exact H) | (have H2_ := (Option.bind_some _ _).symm.trans H; rw [hy286]; with_reducible exact H2_) | (have H2_ := (Option.bind_some _ _).symm.trans H; with_reducible exact H2_) | with_reducible exact H | (rw [hy286]; exact H) | exact H
  have Ny286 := Aside0.mk hy286
  clear hy286
  by_cases c7 : ([] : List (S24)).length + y286.length < 2932031007402
  rotate_left
  ·rw [if_neg c7] at H; exact absurd H (by simp)
  rw [if_pos c7] at H
  have LMc7 := Aside0.mk c7
  clear c7
  obtain ⟨y290, hy290⟩ : ∃ y_ : List (S24), y_ = (([] : List (S24)) ++ y286) := ⟨_, rfl⟩
  replace H : (if y290.length + l1.length < 2932031007402 then ((some (y290 ++ l1 : List (S24))).bind fun y293 => ((some (l0.drop ((l0.length : Int) : Int).toNat : List (S24))).bind fun y296 => (if y293.length + y296.length < 2932031007402 then (some (y293 ++ y296)) else (none)))) else (none)) = some r := by first | (rw [hy290]; with_reducible exact H) | (have H2_ := (Option.bind_some _ _).symm.trans H; rw [hy290]; with_reducible exact H2_) | (have H2_ := (Option.bind_some _ _).symm.trans H; with_reducible exact H2_) | with_reducible exact H | (rw [hy290]; exact H) | exact H
  have Ny290 := Aside0.mk hy290
  clear hy290
  by_cases c8 : y290.length + l1.length < 2932031007402
  rotate_left
  ·rw [if_neg c8] at H; exact absurd H (by simp)
  rw [if_pos c8] at H
  have LMc8 := Aside0.mk c8
  clear c8
  obtain ⟨y293, hy293⟩ : ∃ y_ : List (S24), y_ = (y290 ++ l1) := ⟨_, rfl⟩
  replace H : ((some (l0.drop ((l0.length : Int) : Int).toNat : List (S24))).bind fun y296 => (if y293.length + y296.length < 2932031007402 then (some (y293 ++ y296)) else (none))) = some r := by first | (rw [hy293]; with_reducible exact H) | (have H2_ := (Option.bind_some _ _).symm.trans H; rw [hy293]; with_reducible exact H2_) | (have H2_ := (Option.bind_some _ _).symm.trans H; with_reducible exact H2_) | with_reducible exact H | (rw [hy293]; exact H) | exact H
  have Ny293 := Aside0.mk hy293
  clear hy293
  have c9b0 := eq_true (of_decide_eq_true z4_ : 0 ≤ (l0.length : Int))
  have c10b0 := eq_true (of_decide_eq_true z4_ : (l0.length : Int) ≤ (l0.length : Int))
  obtain ⟨y296, hy296⟩ : ∃ y_ : List (S24), y_ = (l0.drop ((l0.length : Int) : Int).toNat) := ⟨_, rfl⟩
  replace H : (if y293.length + y296.length < 2932031007402 then (some (y293 ++ y296)) else (none)) = some r := by first | (rw [hy296]; with_reducible exact H) | (have H2_ := (Option.bind_some _ _).symm.trans H; rw [hy296]; with_reducible exact H2_) | (have H2_ := (Option.bind_some _ _).symm.trans H; with_reducible exact H2_) | with_reducible exact H | (rw [hy296]; exact H) | exact H
  have Ny296 := Aside0.mk hy296
  clear hy296
  by_cases c11 : y293.length + y296.length < 2932031007402
  rotate_left
  ·rw [if_neg c11] at H; exact absurd H (by simp)
  rw [if_pos c11] at H
  have LMc11 := Aside0.mk c11
  clear c11
  obtain ⟨y300, hy300⟩ : ∃ y_ : List (S24), y_ = (y293 ++ y296) := ⟨_, rfl⟩
  replace H : (some y300) = some r := by first | (rw [hy300]; with_reducible exact H) | (have H2_ := (Option.bind_some _ _).symm.trans H; rw [hy300]; with_reducible exact H2_) | (have H2_ := (Option.bind_some _ _).symm.trans H; with_reducible exact H2_) | with_reducible exact H | (rw [hy300]; exact H) | exact H
  have Ny300 := Aside0.mk hy300
  clear hy300
  obtain rfl := Option.some.inj H
  have q12 : ((l0.length : Int) : Int) ≤ ((l0.length : Int) : Int) := of_decide_eq_true z4_
  obtain ⟨i012, hi012, _, hsz12, _⟩ := info_parts info24
  have hroom12 : l0.length ≤ c0 := HC0.out
  have hC12 : Kd.C k24 _ A0 l0.length l0 := HR0.out
  have hcut12 := cut_to (P := Try.prog) 22 24 .i64 Try.underlying22 hi012 A0 l0.length c0 (l0.length : Int) (of_decide_eq_true z4_) q12 hroom12
  have hr12 := Kd.C_take (m := ((l0.length : Int) : Int).toNat) hC12 (by omega)
  have hy12 : y286.length = ((l0.length : Int) : Int).toNat := (by rw [Ny286.out, List.length_take]; omega)
  rw [← Ny286.out] at hr12
  rw [← hy12] at hcut12
  have HR289 := Aside0.mk hr12
  have HC289 := Aside0.mk (show y286.length ≤ c0 from by omega)
  clear hr12 hC12 hroom12 hi012 hsz12
  have KY12 := Aside0.mk hy12
  clear hy12
  replace q12 := eq_true q12
  go_enter Try.func47, Try.ntmps47
  go_wp2_with (first | ((with_reducible refine gate_builtin (b := .append) (xs := #[.tmp 16, .tmp 19]) rfl ?_); at_builtin; refine Kd.R_append_rows k24 (w0 := w) w.heap.size rfl (.tmp 16) (.tmp 19) 22 24 (.agg #[(.int .i64 0), (.int .i64 0), (.int .i64 0), (.int .i64 0), (.string ⟨#[]⟩)]) 48 rfl Try.underlying22 info24 rfl (by decide) (by omega) (.slice none 0 0) ([] : List (S24)) y286 _ _ _ (fun _ => True) (fun _ => False) rfl rfl ?aO ?aR (fun _ _ h => h) (fun _ h => h.elim) ?aF ?aB ?aS ?aL ?_; (case aR => repeat (first | exact HR289.out | (with_reducible refine Kd.C_alloc ?_ _) | (with_reducible refine Kd.C_drewN ?_ _) | (with_reducible refine Kd.C_drew ?_))); (case aB => exact z1_); (case aF => exact (fun _ _ => trivial)); (case aO => exact ((Kd.R_nil _ _ _ _ (fun _ => True)))); (case aS => exact (below_size z1_)); (case aL => have := LMc7.out; omega); intro v291 w13 ho hb hg hat; rw [← Ny290.out] at ho; have n0_ := Aside0.mk (hb); have n1_ := Aside0.mk (ho); clear HB; have HB := n0_; have HO292 := n1_; clear n0_ n1_; clear ho hb hg hat) | ((with_reducible refine gate_builtin (b := .append) (xs := #[.tmp 21, .tmp 22]) rfl ?_); at_builtin; refine Kd.R_append_rows k24 (w0 := w) w.heap.size rfl (.tmp 21) (.tmp 22) 22 24 (.agg #[(.int .i64 0), (.int .i64 0), (.int .i64 0), (.int .i64 0), (.string ⟨#[]⟩)]) 48 rfl Try.underlying22 info24 rfl (by decide) (by omega) v291 y290 l1 _ _ _ (fun _ => True) (fun _ => False) rfl rfl ?aO ?aR (fun _ _ h => h) (fun _ h => h.elim) ?aF ?aB ?aS ?aL ?_; (case aR => repeat (first | exact (Kd.C_below HR1.out HB.out) | (with_reducible refine Kd.C_alloc ?_ _) | (with_reducible refine Kd.C_drewN ?_ _) | (with_reducible refine Kd.C_drew ?_))); (case aB => exact z1_); (case aF => exact (fun _ _ => trivial)); (case aO => exact (by (with_reducible repeat (first | apply Kd.R_alloc | apply Kd.R_drewN | apply Kd.R_drew)); exact HO292.out)); (case aS => exact (below_size z1_)); (case aL => have := LMc8.out; omega); intro v294 w14 ho hb hg hat; rw [← Ny293.out] at ho; have n0_ := Aside0.mk (hb); have n1_ := Aside0.mk (ho); clear HB; clear HO292; have HB := n0_; have HO295 := n1_; clear n0_ n1_; clear ho hb hg hat; have q15 : ((l0.length : Int) : Int) ≤ ((l0.length : Int) : Int) := of_decide_eq_true z4_; obtain ⟨i015, hi015, _, hsz15, _⟩ := info_parts info24; have hroom15 : l0.length ≤ c0 := HC0.out; have hC15 : Kd.C k24 _ A0 l0.length l0 := HR0.out; have q015 : (0 : Int) ≤ ((l0.length : Int) : Int) := of_decide_eq_true z4_; have hcut15 := cut_from (P := Try.prog) 22 24 .i64 Try.underlying22 hi015 5 hsz15 A0 l0.length c0 (l0.length : Int) q015 q15; have hr15 := Kd.C_drop (m := ((l0.length : Int) : Int).toNat) (c := c0) hC15 (by omega) hroom15; obtain ⟨A15, hA15⟩ : ∃ A1, A1 = (if c0 = ((l0.length : Int) : Int).toNat then A0 else (A0 : Option Addr).map (·.add (((l0.length : Int) : Int).toNat * 5))) := ⟨_, rfl⟩; obtain ⟨c15, hc15⟩ : ∃ c1, c1 = c0 - ((l0.length : Int) : Int).toNat := ⟨_, rfl⟩; have hy15 : y296.length = l0.length - ((l0.length : Int) : Int).toNat := (by rw [Ny296.out, List.length_drop] <;> omega); rw [show (l0).drop ((l0.length : Int) : Int).toNat = y296 from Ny296.out.symm] at hr15; replace hr15 : Kd.C k24 _ A15 y296.length y296 := (by rw [hA15]; exact hr15); rw [← hy15, ← hA15, ← hc15] at hcut15; have HR299 := Aside0.mk hr15; have HC299 := Aside0.mk (show y296.length ≤ c15 from by rw [hy15, hc15]; exact Nat.sub_le_sub_right hroom15 _); clear hr15 hC15 hroom15 hi015 hsz15 hc15; have KY15 := Aside0.mk hy15; have KA15 := Aside0.mk hA15; clear hy15 hA15; replace q15 := eq_true q15) | ((with_reducible refine gate_builtin (b := .append) (xs := #[.tmp 24, .tmp 27]) rfl ?_); at_builtin; refine Kd.R_append_rows k24 (w0 := w) w.heap.size rfl (.tmp 24) (.tmp 27) 22 24 (.agg #[(.int .i64 0), (.int .i64 0), (.int .i64 0), (.int .i64 0), (.string ⟨#[]⟩)]) 48 rfl Try.underlying22 info24 rfl (by decide) (by omega) v294 y293 y296 _ _ _ (fun _ => True) (fun _ => False) rfl rfl ?aO ?aR (fun _ _ h => h) (fun _ h => h.elim) ?aF ?aB ?aS ?aL ?_; (case aR => repeat (first | exact (Kd.C_below HR299.out HB.out) | (with_reducible refine Kd.C_alloc ?_ _) | (with_reducible refine Kd.C_drewN ?_ _) | (with_reducible refine Kd.C_drew ?_))); (case aB => exact z1_); (case aF => exact (fun _ _ => trivial)); (case aO => exact (by (with_reducible repeat (first | apply Kd.R_alloc | apply Kd.R_drewN | apply Kd.R_drew)); exact HO295.out)); (case aS => exact (below_size z1_)); (case aL => have := LMc11.out; omega); intro v301 w16 ho hb hg hat; rw [← Ny300.out] at ho; have n0_ := Aside0.mk (hb); have n1_ := Aside0.mk (ho); clear HB; clear HO295; have HB := n0_; have HO302 := n1_; clear n0_ n1_; clear ho hb hg hat))
  go_ret
  exact ⟨_, by first | rfl | (simp [errW_none, errW_some] <;> rfl) | (simp [*, errW_none, errW_some] <;> rfl), by (with_reducible repeat (first | apply Kd.R_alloc | apply Kd.R_drewN | apply Kd.R_drew)); exact HO302.out, by repeat (first | (with_reducible first | exact HB.out | apply below_alloc | apply pw_below_drewN | apply below_drew1) | exact HB.out)⟩
 ·rw [if_neg c4] at H
  have c4b0 : (a2 == 0) = false := beq_eq_false_iff_ne.mpr c4
  have c4b1 : (a2 != 0) = true := bne_iff_ne.mpr c4
  replace H := Option.bind_eq_some_iff.mp H
  obtain ⟨t303, A170, H⟩ := H
  try dsimp only at H
  have A17 := Aside0.mk A170
  clear A170
  by_cases c18 : 0 ≤ t303
  ·rw [if_pos c18] at H
   have c18b0 := eq_true c18
   have c18b1 : decide (0 ≤ t303) = true := decide_eq_true c18
   clear c18
   by_cases c19 : t303 ≤ (l0.length : Int)
   rotate_left
   ·rw [if_neg c19] at H; exact absurd H (by simp)
   rw [if_pos c19] at H
   have c19b0 := eq_true c19
   have c19b1 : decide (t303 ≤ (l0.length : Int)) = true := decide_eq_true c19
   clear c19
   obtain ⟨y304, hy304⟩ : ∃ y_ : List (S24), y_ = (l0.take (t303 : Int).toNat) := ⟨_, rfl⟩
   replace H : (if ([] : List (S24)).length + y304.length < 2932031007402 then ((some (([] : List (S24)) ++ y304 : List (S24))).bind fun y308 => (if y308.length + l1.length < 2932031007402 then ((some (y308 ++ l1 : List (S24))).bind fun y311 => ((some (l0.drop (t303 : Int).toNat : List (S24))).bind fun y314 => (if y311.length + y314.length < 2932031007402 then (some (y311 ++ y314)) else (none)))) else (none))) else (none)) = some r := by first | (rw [hy304]; with_reducible exact H) | (have H2_ := (Option.bind_some _ _).symm.trans H; rw [hy304]; with_reducible exact H2_) | (have H2_ := (Option.bind_some _ _).symm.trans H; with_reducible exact H2_) | with_reducible exact H | (rw [hy304]; exact H) | exact H
   have Ny304 := Aside0.mk hy304
   clear hy304
   by_cases c20 : ([] : List (S24)).length + y304.length < 2932031007402
   rotate_left
   ·rw [if_neg c20] at H; exact absurd H (by simp)
   rw [if_pos c20] at H
   have LMc20 := Aside0.mk c20
   clear c20
   obtain ⟨y308, hy308⟩ : ∃ y_ : List (S24), y_ = (([] : List (S24)) ++ y304) := ⟨_, rfl⟩
   replace H : (if y308.length + l1.length < 2932031007402 then ((some (y308 ++ l1 : List (S24))).bind fun y311 => ((some (l0.drop (t303 : Int).toNat : List (S24))).bind fun y314 => (if y311.length + y314.length < 2932031007402 then (some (y311 ++ y314)) else (none)))) else (none)) = some r := by first | (rw [hy308]; with_reducible exact H) | (have H2_ := (Option.bind_some _ _).symm.trans H; rw [hy308]; with_reducible exact H2_) | (have H2_ := (Option.bind_some _ _).symm.trans H; with_reducible exact H2_) | with_reducible exact H | (rw [hy308]; exact H) | exact H
   have Ny308 := Aside0.mk hy308
   clear hy308
   by_cases c21 : y308.length + l1.length < 2932031007402
   rotate_left
   ·rw [if_neg c21] at H; exact absurd H (by simp)
   rw [if_pos c21] at H
   have LMc21 := Aside0.mk c21
   clear c21
   obtain ⟨y311, hy311⟩ : ∃ y_ : List (S24), y_ = (y308 ++ l1) := ⟨_, rfl⟩
   replace H : ((some (l0.drop (t303 : Int).toNat : List (S24))).bind fun y314 => (if y311.length + y314.length < 2932031007402 then (some (y311 ++ y314)) else (none))) = some r := by first | (rw [hy311]; with_reducible exact H) | (have H2_ := (Option.bind_some _ _).symm.trans H; rw [hy311]; with_reducible exact H2_) | (have H2_ := (Option.bind_some _ _).symm.trans H; with_reducible exact H2_) | with_reducible exact H | (rw [hy311]; exact H) | exact H
   have Ny311 := Aside0.mk hy311
   clear hy311
   have c22b0 := eq_true (of_decide_eq_true z4_ : 0 ≤ t303)
   have c23b0 := eq_true (of_decide_eq_true z4_ : t303 ≤ (l0.length : Int))
   obtain ⟨y314, hy314⟩ : ∃ y_ : List (S24), y_ = (l0.drop (t303 : Int).toNat) := ⟨_, rfl⟩
   replace H : (if y311.length + y314.length < 2932031007402 then (some (y311 ++ y314)) else (none)) = some r := by first | (rw [hy314]; with_reducible exact H) | (have H2_ := (Option.bind_some _ _).symm.trans H; rw [hy314]; with_reducible exact H2_) | (have H2_ := (Option.bind_some _ _).symm.trans H; with_reducible exact H2_) | with_reducible exact H | (rw [hy314]; exact H) | exact H
   have Ny314 := Aside0.mk hy314
   clear hy314
   by_cases c24 : y311.length + y314.length < 2932031007402
   rotate_left
   ·rw [if_neg c24] at H; exact absurd H (by simp)
   rw [if_pos c24] at H
   have LMc24 := Aside0.mk c24
   clear c24
   obtain ⟨y318, hy318⟩ : ∃ y_ : List (S24), y_ = (y311 ++ y314) := ⟨_, rfl⟩
   replace H : (some y318) = some r := by first | (rw [hy318]; with_reducible exact H) | (have H2_ := (Option.bind_some _ _).symm.trans H; rw [hy318]; with_reducible exact H2_) | (have H2_ := (Option.bind_some _ _).symm.trans H; with_reducible exact H2_) | with_reducible exact H | (rw [hy318]; exact H) | exact H
   have Ny318 := Aside0.mk hy318
   clear hy318
   obtain rfl := Option.some.inj H
   go_enter Try.func47, Try.ntmps47
   go_wp2_with (first | ((with_reducible refine gate_callee (f := 34) rfl ?_); refine goesL_ (some 15) rfl rfl Try.func34 (by kernel_rfl) rfl #[.slice A0 l0.length c0, .int .i64 a2] rfl z2_ ?_; (with_reducible refine (formeref10_Index.calls k _ _ l0 a2 t303 _ ?side1 ?side2 A17.out).mono ?_); (case side1 => exact z7_); (case side2 => exact HC0.out); rintro e w' ⟨rfl, ⟨nd, rfl⟩⟩; refine ⟨_, rfl, ?_⟩; have q25 : (t303 : Int) ≤ ((l0.length : Int) : Int) := of_decide_eq_true z4_; obtain ⟨i025, hi025, _, hsz25, _⟩ := info_parts info24; have hroom25 : l0.length ≤ c0 := HC0.out; have hC25 : Kd.C k24 _ A0 l0.length l0 := HR0.out; have hcut25 := cut_to (P := Try.prog) 22 24 .i64 Try.underlying22 hi025 A0 l0.length c0 t303 (of_decide_eq_true z4_) q25 hroom25; have hr25 := Kd.C_take (m := (t303 : Int).toNat) hC25 (by omega); have hy25 : y304.length = (t303 : Int).toNat := (by rw [Ny304.out, List.length_take]; omega); rw [← Ny304.out] at hr25; rw [← hy25] at hcut25; have HR307 := Aside0.mk hr25; have HC307 := Aside0.mk (show y304.length ≤ c0 from by omega); clear hr25 hC25 hroom25 hi025 hsz25; have KY25 := Aside0.mk hy25; clear hy25; replace q25 := eq_true q25) | ((with_reducible refine gate_builtin (b := .append) (xs := #[.tmp 16, .tmp 19]) rfl ?_); at_builtin; refine Kd.R_append_rows k24 (w0 := w) w.heap.size rfl (.tmp 16) (.tmp 19) 22 24 (.agg #[(.int .i64 0), (.int .i64 0), (.int .i64 0), (.int .i64 0), (.string ⟨#[]⟩)]) 48 rfl Try.underlying22 info24 rfl (by decide) (by omega) (.slice none 0 0) ([] : List (S24)) y304 _ _ _ (fun _ => True) (fun _ => False) rfl rfl ?aO ?aR (fun _ _ h => h) (fun _ h => h.elim) ?aF ?aB ?aS ?aL ?_; (case aR => repeat (first | exact HR307.out | (with_reducible refine Kd.C_alloc ?_ _) | (with_reducible refine Kd.C_drewN ?_ _) | (with_reducible refine Kd.C_drew ?_))); (case aB => exact z1_); (case aF => exact (fun _ _ => trivial)); (case aO => exact ((Kd.R_nil _ _ _ _ (fun _ => True)))); (case aS => exact (below_size z1_)); (case aL => have := LMc20.out; omega); intro v309 w26 ho hb hg hat; rw [← Ny308.out] at ho; have n0_ := Aside0.mk (hb); have n1_ := Aside0.mk (ho); clear HB; have HB := n0_; have HO310 := n1_; clear n0_ n1_; clear ho hb hg hat) | ((with_reducible refine gate_builtin (b := .append) (xs := #[.tmp 21, .tmp 22]) rfl ?_); at_builtin; refine Kd.R_append_rows k24 (w0 := w) w.heap.size rfl (.tmp 21) (.tmp 22) 22 24 (.agg #[(.int .i64 0), (.int .i64 0), (.int .i64 0), (.int .i64 0), (.string ⟨#[]⟩)]) 48 rfl Try.underlying22 info24 rfl (by decide) (by omega) v309 y308 l1 _ _ _ (fun _ => True) (fun _ => False) rfl rfl ?aO ?aR (fun _ _ h => h) (fun _ h => h.elim) ?aF ?aB ?aS ?aL ?_; (case aR => repeat (first | exact (Kd.C_below HR1.out HB.out) | (with_reducible refine Kd.C_alloc ?_ _) | (with_reducible refine Kd.C_drewN ?_ _) | (with_reducible refine Kd.C_drew ?_))); (case aB => exact z1_); (case aF => exact (fun _ _ => trivial)); (case aO => exact (by (with_reducible repeat (first | apply Kd.R_alloc | apply Kd.R_drewN | apply Kd.R_drew)); exact HO310.out)); (case aS => exact (below_size z1_)); (case aL => have := LMc21.out; omega); intro v312 w27 ho hb hg hat; rw [← Ny311.out] at ho; have n0_ := Aside0.mk (hb); have n1_ := Aside0.mk (ho); clear HB; clear HO310; have HB := n0_; have HO313 := n1_; clear n0_ n1_; clear ho hb hg hat; have q28 : (t303 : Int) ≤ ((l0.length : Int) : Int) := of_decide_eq_true z4_; obtain ⟨i028, hi028, _, hsz28, _⟩ := info_parts info24; have hroom28 : l0.length ≤ c0 := HC0.out; have hC28 : Kd.C k24 _ A0 l0.length l0 := HR0.out; have q028 : (0 : Int) ≤ (t303 : Int) := of_decide_eq_true z4_; have hcut28 := cut_from (P := Try.prog) 22 24 .i64 Try.underlying22 hi028 5 hsz28 A0 l0.length c0 t303 q028 q28; have hr28 := Kd.C_drop (m := (t303 : Int).toNat) (c := c0) hC28 (by omega) hroom28; obtain ⟨A28, hA28⟩ : ∃ A1, A1 = (if c0 = (t303 : Int).toNat then A0 else (A0 : Option Addr).map (·.add ((t303 : Int).toNat * 5))) := ⟨_, rfl⟩; obtain ⟨c28, hc28⟩ : ∃ c1, c1 = c0 - (t303 : Int).toNat := ⟨_, rfl⟩; have hy28 : y314.length = l0.length - (t303 : Int).toNat := (by rw [Ny314.out, List.length_drop] <;> omega); rw [show (l0).drop (t303 : Int).toNat = y314 from Ny314.out.symm] at hr28; replace hr28 : Kd.C k24 _ A28 y314.length y314 := (by rw [hA28]; exact hr28); rw [← hy28, ← hA28, ← hc28] at hcut28; have HR317 := Aside0.mk hr28; have HC317 := Aside0.mk (show y314.length ≤ c28 from by rw [hy28, hc28]; exact Nat.sub_le_sub_right hroom28 _); clear hr28 hC28 hroom28 hi028 hsz28 hc28; have KY28 := Aside0.mk hy28; have KA28 := Aside0.mk hA28; clear hy28 hA28; replace q28 := eq_true q28) | ((with_reducible refine gate_builtin (b := .append) (xs := #[.tmp 24, .tmp 27]) rfl ?_); at_builtin; refine Kd.R_append_rows k24 (w0 := w) w.heap.size rfl (.tmp 24) (.tmp 27) 22 24 (.agg #[(.int .i64 0), (.int .i64 0), (.int .i64 0), (.int .i64 0), (.string ⟨#[]⟩)]) 48 rfl Try.underlying22 info24 rfl (by decide) (by omega) v312 y311 y314 _ _ _ (fun _ => True) (fun _ => False) rfl rfl ?aO ?aR (fun _ _ h => h) (fun _ h => h.elim) ?aF ?aB ?aS ?aL ?_; (case aR => repeat (first | exact (Kd.C_below HR317.out HB.out) | (with_reducible refine Kd.C_alloc ?_ _) | (with_reducible refine Kd.C_drewN ?_ _) | (with_reducible refine Kd.C_drew ?_))); (case aB => exact z1_); (case aF => exact (fun _ _ => trivial)); (case aO => exact (by (with_reducible repeat (first | apply Kd.R_alloc | apply Kd.R_drewN | apply Kd.R_drew)); exact HO313.out)); (case aS => exact (below_size z1_)); (case aL => have := LMc24.out; omega); intro v319 w29 ho hb hg hat; rw [← Ny318.out] at ho; have n0_ := Aside0.mk (hb); have n1_ := Aside0.mk (ho); clear HB; clear HO313; have HB := n0_; have HO320 := n1_; clear n0_ n1_; clear ho hb hg hat))
   go_ret
   exact ⟨_, by first | rfl | (simp [errW_none, errW_some] <;> rfl) | (simp [*, errW_none, errW_some] <;> rfl), by (with_reducible repeat (first | apply Kd.R_alloc | apply Kd.R_drewN | apply Kd.R_drew)); exact HO320.out, by repeat (first | (with_reducible first | exact HB.out | apply below_alloc | apply pw_below_drewN | apply below_drew1) | exact HB.out)⟩
  ·rw [if_neg c18] at H
   exact absurd H (by simp)
end Go.Proofs.Ytpafhhgoldenoaa.P
end
section
namespace Go.Proofs.Ytpafhhgoldenoaa.P
open Go.RowKit Go.Proofs.YtpafhhgoldenoaaW.PrintWords Go.Proofs.YtpafhhgoldenoaaW.PrintLast Go.Proofs.YtpafhhgoldenoaaW.PrintMore
attribute [local go_sem] max2_int min2_int max_two min_two max_three min_three max_four min_four
set_option linter.unusedVariables false
set_option linter.unusedSimpArgs false
mutual
def formeref10_Insert.j0 : Nat → List (S24) → Int → Bool → Int → Int → Int → Int → ByteArray → Option ((List (S24)) × Int)
 | 0, _, _, _, _, _, _, _, _ => none
 | k + 1, x0, x2, x34, x322000, x322001, x322002, x322003, x322004 => if x34 = true then (some (([] : List (S24)), 1)) else ((formeref10_Index.f k x0 x322000).bind fun t325 => (if t325 ≥ 0 then (some (([] : List (S24)), 5)) else ((formeref10_Index.f k x0 x322001).bind fun t326 => (if t326 < 0 then (some (([] : List (S24)), 4)) else (if x2 = 0 then (formeref10_Insert.j1 k x0 x2 t326 false x322000 x322001 x322002 x322003 x322004) else ((formeref10_Children.f k x0 x322001).bind fun t327 => ((formeref10_Has.f k t327 x2).bind fun t330 => (formeref10_Insert.j1 k x0 x2 t326 (!t330) x322000 x322001 x322002 x322003 x322004))))))))
def formeref10_Insert.j1 : Nat → List (S24) → Int → Int → Bool → Int → Int → Int → Int → ByteArray → Option ((List (S24)) × Int)
 | 0, _, _, _, _, _, _, _, _, _ => none
 | k + 1, x0, x2, x10, x56, x322000, x322001, x322002, x322003, x322004 => if x56 = true then (some (([] : List (S24)), 24)) else (if 0 ≤ x10 then (if x10 < (x0.length : Int) then ((formeref10_Stands.f x322002 ((rd_T24 x0 x10).f2)).bind fun t332 => (if t332 = true then (if (x0.length : Int) = 4000 then (some (([] : List (S24)), 2)) else ((formeref10_Way.f k x0 x322001).bind fun t333 => (if (t333.length : Int) = 30 then (some (([] : List (S24)), 2)) else ((formeref10_put.f k x0 (([(⟨x322000, x322001, x322002, x322003, x322004⟩ : S24)] : List (S24))) x2).bind fun t339 => (some (t339, 0)))))) else (some (([] : List (S24)), 25)))) else (none)) else (none))
end
def formeref10_Insert.f (k : Nat) (l0 : List (S24)) (a1_0 : Int) (a1_1 : Int) (a1_2 : Int) (a1_3 : Int) (a1_4 : ByteArray) (a2 : Int) : Option ((List (S24)) × Int) := (formeref10_Valid.f k l0).bind fun t322 => ((formeref10_Node.f k a1_0 a1_1 a1_2 a1_3 a1_4).bind fun t323 => (if t322 = true then (if a2 = 0 then (if t323 = true then (formeref10_Insert.j0 k l0 a2 (a1_1 == 0) a1_0 a1_1 a1_2 a1_3 a1_4) else (formeref10_Insert.j0 k l0 a2 true a1_0 a1_1 a1_2 a1_3 a1_4)) else ((formeref10_ID.f a2).bind fun t324 => (if t324 = true then (if t323 = true then (formeref10_Insert.j0 k l0 a2 (a1_1 == 0) a1_0 a1_1 a1_2 a1_3 a1_4) else (formeref10_Insert.j0 k l0 a2 true a1_0 a1_1 a1_2 a1_3 a1_4)) else (formeref10_Insert.j0 k l0 a2 true a1_0 a1_1 a1_2 a1_3 a1_4)))) else (formeref10_Insert.j0 k l0 a2 true a1_0 a1_1 a1_2 a1_3 a1_4)))
theorem formeref10_Insert.mono_l : ∀ k, (∀ y0 y1 y2 y3 y4 y5 y6 y7, LeO (formeref10_Insert.j0 k y0 y1 y2 y3 y4 y5 y6 y7) (formeref10_Insert.j0 (k + 1) y0 y1 y2 y3 y4 y5 y6 y7)) ∧ (∀ y0 y1 y2 y3 y4 y5 y6 y7 y8, LeO (formeref10_Insert.j1 k y0 y1 y2 y3 y4 y5 y6 y7 y8) (formeref10_Insert.j1 (k + 1) y0 y1 y2 y3 y4 y5 y6 y7 y8))
 | 0 => ⟨fun _ _ _ _ _ _ _ _ r h => by simp [formeref10_Insert.j0] at h, fun _ _ _ _ _ _ _ _ _ r h => by simp [formeref10_Insert.j1] at h⟩
 | k + 1 => by
  obtain ⟨ih0, ih1⟩ := formeref10_Insert.mono_l k
  refine ⟨?_, ?_⟩
  ·intro y0 y1 y2 y3 y4 y5 y6 y7
   unfold formeref10_Insert.j0
   repeat' first
   | (with_reducible exact ih0 _ _ _ _ _ _ _ _)
   | (with_reducible exact ih1 _ _ _ _ _ _ _ _ _)
   | (with_reducible exact formeref10_Children.mono _ _ _)
   | (with_reducible exact formeref10_Has.mono _ _ _)
   | (with_reducible exact formeref10_Index.mono _ _ _)
   | (with_reducible exact formeref10_Node.mono _ _ _ _ _ _)
   | (with_reducible exact formeref10_Valid.mono _ _)
   | (with_reducible exact formeref10_Way.mono _ _ _)
   | (with_reducible exact formeref10_put.mono _ _ _ _)
   | (with_reducible exact LeO.refl _)
   | (with_reducible exact LeO.none _)
   | (with_reducible refine LeO.ite ?_ ?_)
   | (with_reducible refine LeO.bind ?_ (fun _ => ?_))
   | exact ih0 _ _ _ _ _ _ _ _
   | exact ih1 _ _ _ _ _ _ _ _ _
   | exact formeref10_Children.mono _ _ _
   | exact formeref10_Has.mono _ _ _
   | exact formeref10_Index.mono _ _ _
   | exact formeref10_Node.mono _ _ _ _ _ _
   | exact formeref10_Valid.mono _ _
   | exact formeref10_Way.mono _ _ _
   | exact formeref10_put.mono _ _ _ _
   | exact LeO.none _
   | refine LeO.ite ?_ ?_
   | refine LeO.bind ?_ (fun _ => ?_)
  ·intro y0 y1 y2 y3 y4 y5 y6 y7 y8
   unfold formeref10_Insert.j1
   repeat' first
   | (with_reducible exact ih0 _ _ _ _ _ _ _ _)
   | (with_reducible exact ih1 _ _ _ _ _ _ _ _ _)
   | (with_reducible exact formeref10_Children.mono _ _ _)
   | (with_reducible exact formeref10_Has.mono _ _ _)
   | (with_reducible exact formeref10_Index.mono _ _ _)
   | (with_reducible exact formeref10_Node.mono _ _ _ _ _ _)
   | (with_reducible exact formeref10_Valid.mono _ _)
   | (with_reducible exact formeref10_Way.mono _ _ _)
   | (with_reducible exact formeref10_put.mono _ _ _ _)
   | (with_reducible exact LeO.refl _)
   | (with_reducible exact LeO.none _)
   | (with_reducible refine LeO.ite ?_ ?_)
   | (with_reducible refine LeO.bind ?_ (fun _ => ?_))
   | exact ih0 _ _ _ _ _ _ _ _
   | exact ih1 _ _ _ _ _ _ _ _ _
   | exact formeref10_Children.mono _ _ _
   | exact formeref10_Has.mono _ _ _
   | exact formeref10_Index.mono _ _ _
   | exact formeref10_Node.mono _ _ _ _ _ _
   | exact formeref10_Valid.mono _ _
   | exact formeref10_Way.mono _ _ _
   | exact formeref10_put.mono _ _ _ _
   | exact LeO.none _
   | refine LeO.ite ?_ ?_
   | refine LeO.bind ?_ (fun _ => ?_)
theorem formeref10_Insert.mono : ∀ a0 a1 a2 a3 a4 a5 a6 k, LeO (formeref10_Insert.f k a0 a1 a2 a3 a4 a5 a6) (formeref10_Insert.f (k + 1) a0 a1 a2 a3 a4 a5 a6) := by
 intro a0 a1 a2 a3 a4 a5 a6 k
 obtain ⟨ih0, ih1⟩ := formeref10_Insert.mono_l k
 unfold formeref10_Insert.f
 repeat' first
   | (with_reducible exact ih0 _ _ _ _ _ _ _ _)
   | (with_reducible exact ih1 _ _ _ _ _ _ _ _ _)
   | (with_reducible exact formeref10_Children.mono _ _ _)
   | (with_reducible exact formeref10_Has.mono _ _ _)
   | (with_reducible exact formeref10_Index.mono _ _ _)
   | (with_reducible exact formeref10_Node.mono _ _ _ _ _ _)
   | (with_reducible exact formeref10_Valid.mono _ _)
   | (with_reducible exact formeref10_Way.mono _ _ _)
   | (with_reducible exact formeref10_put.mono _ _ _ _)
   | (with_reducible exact LeO.refl _)
   | (with_reducible exact LeO.none _)
   | (with_reducible refine LeO.ite ?_ ?_)
   | (with_reducible refine LeO.bind ?_ (fun _ => ?_))
   | exact ih0 _ _ _ _ _ _ _ _
   | exact ih1 _ _ _ _ _ _ _ _ _
   | exact formeref10_Children.mono _ _ _
   | exact formeref10_Has.mono _ _ _
   | exact formeref10_Index.mono _ _ _
   | exact formeref10_Node.mono _ _ _ _ _ _
   | exact formeref10_Valid.mono _ _
   | exact formeref10_Way.mono _ _ _
   | exact formeref10_put.mono _ _ _ _
   | exact LeO.none _
   | refine LeO.ite ?_ ?_
   | refine LeO.bind ?_ (fun _ => ?_)
set_option maxHeartbeats 8000000 in
set_option maxRecDepth 100000 in
theorem formeref10_Insert.calls (k : Nat) (A0 : Option Addr) (c0 : Nat) (l0 : List (S24)) (a1_0 : Int) (a1_1 : Int) (a1_2 : Int) (a1_3 : Int) (a1_4 : ByteArray) (a2 : Int) (r1 : List (S24)) (r2 : Int) (w : World) (hr0 : Kd.C k24 w A0 l0.length l0) (hc0 : l0.length ≤ c0) (h : formeref10_Insert.f k l0 a1_0 a1_1 a1_2 a1_3 a1_4 a2 = some (r1, r2)) :
  Calls Try.prog 21 #[.slice A0 l0.length c0, .agg #[.int .i64 a1_0, .int .i64 a1_1, .int .i64 a1_2, .int .i64 a1_3, .string a1_4], .int .i64 a2] w fun e w' => ∃ v0_ : Value, e = .returned (.tuple #[v0_, .int .i64 r2]) ∧ Kd.R k24 24 w' w.heap.size (fun _ => True) v0_ r1 ∧ Below w.heap.size w w' := by
 have hu24 := Try.underlying24
 have HR0 := Aside0.mk hr0
 have HC0 := Aside0.mk hc0
 clear hr0 hc0
 have HB := Aside0.mk (Below.refl w.heap.size w)
 have H : ((formeref10_Valid.f k l0).bind fun t322 => ((formeref10_Node.f k a1_0 a1_1 a1_2 a1_3 a1_4).bind fun t323 => (if t322 = true then (if a2 = 0 then (if t323 = true then (formeref10_Insert.j0 k l0 a2 (a1_1 == 0) a1_0 a1_1 a1_2 a1_3 a1_4) else (formeref10_Insert.j0 k l0 a2 true a1_0 a1_1 a1_2 a1_3 a1_4)) else ((formeref10_ID.f a2).bind fun t324 => (if t324 = true then (if t323 = true then (formeref10_Insert.j0 k l0 a2 (a1_1 == 0) a1_0 a1_1 a1_2 a1_3 a1_4) else (formeref10_Insert.j0 k l0 a2 true a1_0 a1_1 a1_2 a1_3 a1_4)) else (formeref10_Insert.j0 k l0 a2 true a1_0 a1_1 a1_2 a1_3 a1_4)))) else (formeref10_Insert.j0 k l0 a2 true a1_0 a1_1 a1_2 a1_3 a1_4)))) = some (r1, r2) := h
 clear h
 replace H := Option.bind_eq_some_iff.mp H
 obtain ⟨t322, A40, H⟩ := H
 try dsimp only at H
 have A4 := Aside0.mk A40
 clear A40
 replace H := Option.bind_eq_some_iff.mp H
 obtain ⟨t323, A50, H⟩ := H
 try dsimp only at H
 have A5 := Aside0.mk A50
 clear A50
 have HC6 := Aside0.mk H
 clear H
 go_enter Try.func21, Try.ntmps21
 go_upto_region 3 with (first | ((with_reducible refine gate_dst (N := 4) rfl ?_); (try (refine gate_guard (by rfl) ?_; dsimp only)); refine box_event ?hg (N := 4) ?hd (cs := #[.int .i64 a1_0, .int .i64 a1_1, .int .i64 a1_2, .int .i64 a1_3, .string a1_4]) (t := 24) ?hr ?_; (case hd => rfl); (case hg => rfl); (case hr => exact z13_); intro gb321 hg w7 hbox hb; have n0_ := Aside0.mk (below_step z1_ hb); have n1_ := Aside0.mk (hbox); have n2_ := Aside0.mk ((by rw [hg]; exact (below_size z1_) : w.heap.size ≤ gb321)); have n3_ := Aside0.mk ((by rw [hg]; exact (below_size z1_) : w.heap.size ≤ gb321)); clear HB; have HB := n0_; have BK321 := n1_; have GW321 := n2_; have GE321 := n3_; clear n0_ n1_ n2_ n3_; clear hb hbox hg) | (go_at_call 14; (with_reducible refine (formeref10_Valid.calls k _ _ l0 t322 _ ?side1 ?side2 A4.out).mono ?_); (case side1 => exact z3_); (case side2 => exact HC0.out); rintro e w8 ⟨rfl, hb⟩; have n0_ := Aside0.mk (blk_below (g := gb321) (o := .cells #[.int .i64 a1_0, .int .i64 a1_1, .int .i64 a1_2, .int .i64 a1_3, .string a1_4] 24 (0, 0)) z11_ hb); have n1_ := Aside0.mk (below_step z5_ hb); clear BK321; clear HB; have BK321 := n0_; have HB := n1_; clear n0_ n1_; (try clear hb); (try clear hb2); (try clear hk); (try clear hi); have hcz9_0 : w8.cell? ⟨gb321, 0, none⟩ = some (.int .i64 a1_0) := (blk_cell BK321.out 0).trans rfl; have hcz9_1 : w8.cell? ⟨gb321, 1, none⟩ = some (.int .i64 a1_1) := (blk_cell BK321.out 1).trans rfl; have hcz9_2 : w8.cell? ⟨gb321, 2, none⟩ = some (.int .i64 a1_2) := (blk_cell BK321.out 2).trans rfl; have hcz9_3 : w8.cell? ⟨gb321, 3, none⟩ = some (.int .i64 a1_3) := (blk_cell BK321.out 3).trans rfl; have hcz9_4 : w8.cell? ⟨gb321, 4, none⟩ = some (.string a1_4) := (blk_cell BK321.out 4).trans rfl; have hfz9_0 := blk_frozen BK321.out 0; have hfz9_1 := blk_frozen BK321.out 1; have hfz9_2 := blk_frozen BK321.out 2; have hfz9_3 := blk_frozen BK321.out 3; have hfz9_4 := blk_frozen BK321.out 4) | (go_at_call 35; (with_reducible refine (formeref10_Node.calls k a1_0 a1_1 a1_2 a1_3 a1_4 t323 _ A5.out).mono ?_); rintro e w10 ⟨rfl, hb⟩; have n0_ := Aside0.mk (blk_below (g := gb321) (o := .cells #[.int .i64 a1_0, .int .i64 a1_1, .int .i64 a1_2, .int .i64 a1_3, .string a1_4] 24 (0, 0)) z11_ hb); have n1_ := Aside0.mk (below_step z5_ hb); clear BK321; clear HB; have BK321 := n0_; have HB := n1_; clear n0_ n1_; (try clear hb); (try clear hb2); (try clear hk); (try clear hi)))
 repeat (go_quiet (first | ((with_reducible refine gate_dst (N := 4) rfl ?_); (try (refine gate_guard (by rfl) ?_; dsimp only)); refine box_event ?hg (N := 4) ?hd (cs := #[.int .i64 a1_0, .int .i64 a1_1, .int .i64 a1_2, .int .i64 a1_3, .string a1_4]) (t := 24) ?hr ?_; (case hd => rfl); (case hg => rfl); (case hr => exact z13_); intro gb321 hg w7 hbox hb; have n0_ := Aside0.mk (below_step z1_ hb); have n1_ := Aside0.mk (hbox); have n2_ := Aside0.mk ((by rw [hg]; exact (below_size z1_) : w.heap.size ≤ gb321)); have n3_ := Aside0.mk ((by rw [hg]; exact (below_size z1_) : w.heap.size ≤ gb321)); clear HB; have HB := n0_; have BK321 := n1_; have GW321 := n2_; have GE321 := n3_; clear n0_ n1_ n2_ n3_; clear hb hbox hg) | (go_at_call 14; (with_reducible refine (formeref10_Valid.calls k _ _ l0 t322 _ ?side1 ?side2 A4.out).mono ?_); (case side1 => exact z3_); (case side2 => exact HC0.out); rintro e w8 ⟨rfl, hb⟩; have n0_ := Aside0.mk (blk_below (g := gb321) (o := .cells #[.int .i64 a1_0, .int .i64 a1_1, .int .i64 a1_2, .int .i64 a1_3, .string a1_4] 24 (0, 0)) z11_ hb); have n1_ := Aside0.mk (below_step z5_ hb); clear BK321; clear HB; have BK321 := n0_; have HB := n1_; clear n0_ n1_; (try clear hb); (try clear hb2); (try clear hk); (try clear hi); have hcz9_0 : w8.cell? ⟨gb321, 0, none⟩ = some (.int .i64 a1_0) := (blk_cell BK321.out 0).trans rfl; have hcz9_1 : w8.cell? ⟨gb321, 1, none⟩ = some (.int .i64 a1_1) := (blk_cell BK321.out 1).trans rfl; have hcz9_2 : w8.cell? ⟨gb321, 2, none⟩ = some (.int .i64 a1_2) := (blk_cell BK321.out 2).trans rfl; have hcz9_3 : w8.cell? ⟨gb321, 3, none⟩ = some (.int .i64 a1_3) := (blk_cell BK321.out 3).trans rfl; have hcz9_4 : w8.cell? ⟨gb321, 4, none⟩ = some (.string a1_4) := (blk_cell BK321.out 4).trans rfl; have hfz9_0 := blk_frozen BK321.out 0; have hfz9_1 := blk_frozen BK321.out 1; have hfz9_2 := blk_frozen BK321.out 2; have hfz9_3 := blk_frozen BK321.out 3; have hfz9_4 := blk_frozen BK321.out 4) | (go_at_call 35; (with_reducible refine (formeref10_Node.calls k a1_0 a1_1 a1_2 a1_3 a1_4 t323 _ A5.out).mono ?_); rintro e w10 ⟨rfl, hb⟩; have n0_ := Aside0.mk (blk_below (g := gb321) (o := .cells #[.int .i64 a1_0, .int .i64 a1_1, .int .i64 a1_2, .int .i64 a1_3, .string a1_4] 24 (0, 0)) z11_ hb); have n1_ := Aside0.mk (below_step z5_ hb); clear BK321; clear HB; have BK321 := n0_; have HB := n1_; clear n0_ n1_; (try clear hb); (try clear hb2); (try clear hk); (try clear hi))); go_upto_region 3 with (first | ((with_reducible refine gate_dst (N := 4) rfl ?_); (try (refine gate_guard (by rfl) ?_; dsimp only)); refine box_event ?hg (N := 4) ?hd (cs := #[.int .i64 a1_0, .int .i64 a1_1, .int .i64 a1_2, .int .i64 a1_3, .string a1_4]) (t := 24) ?hr ?_; (case hd => rfl); (case hg => rfl); (case hr => exact z13_); intro gb321 hg w7 hbox hb; have n0_ := Aside0.mk (below_step z1_ hb); have n1_ := Aside0.mk (hbox); have n2_ := Aside0.mk ((by rw [hg]; exact (below_size z1_) : w.heap.size ≤ gb321)); have n3_ := Aside0.mk ((by rw [hg]; exact (below_size z1_) : w.heap.size ≤ gb321)); clear HB; have HB := n0_; have BK321 := n1_; have GW321 := n2_; have GE321 := n3_; clear n0_ n1_ n2_ n3_; clear hb hbox hg) | (go_at_call 14; (with_reducible refine (formeref10_Valid.calls k _ _ l0 t322 _ ?side1 ?side2 A4.out).mono ?_); (case side1 => exact z3_); (case side2 => exact HC0.out); rintro e w8 ⟨rfl, hb⟩; have n0_ := Aside0.mk (blk_below (g := gb321) (o := .cells #[.int .i64 a1_0, .int .i64 a1_1, .int .i64 a1_2, .int .i64 a1_3, .string a1_4] 24 (0, 0)) z11_ hb); have n1_ := Aside0.mk (below_step z5_ hb); clear BK321; clear HB; have BK321 := n0_; have HB := n1_; clear n0_ n1_; (try clear hb); (try clear hb2); (try clear hk); (try clear hi); have hcz9_0 : w8.cell? ⟨gb321, 0, none⟩ = some (.int .i64 a1_0) := (blk_cell BK321.out 0).trans rfl; have hcz9_1 : w8.cell? ⟨gb321, 1, none⟩ = some (.int .i64 a1_1) := (blk_cell BK321.out 1).trans rfl; have hcz9_2 : w8.cell? ⟨gb321, 2, none⟩ = some (.int .i64 a1_2) := (blk_cell BK321.out 2).trans rfl; have hcz9_3 : w8.cell? ⟨gb321, 3, none⟩ = some (.int .i64 a1_3) := (blk_cell BK321.out 3).trans rfl; have hcz9_4 : w8.cell? ⟨gb321, 4, none⟩ = some (.string a1_4) := (blk_cell BK321.out 4).trans rfl; have hfz9_0 := blk_frozen BK321.out 0; have hfz9_1 := blk_frozen BK321.out 1; have hfz9_2 := blk_frozen BK321.out 2; have hfz9_3 := blk_frozen BK321.out 3; have hfz9_4 := blk_frozen BK321.out 4) | (go_at_call 35; (with_reducible refine (formeref10_Node.calls k a1_0 a1_1 a1_2 a1_3 a1_4 t323 _ A5.out).mono ?_); rintro e w10 ⟨rfl, hb⟩; have n0_ := Aside0.mk (blk_below (g := gb321) (o := .cells #[.int .i64 a1_0, .int .i64 a1_1, .int .i64 a1_2, .int .i64 a1_3, .string a1_4] 24 (0, 0)) z11_ hb); have n1_ := Aside0.mk (below_step z5_ hb); clear BK321; clear HB; have BK321 := n0_; have HB := n1_; clear n0_ n1_; (try clear hb); (try clear hb2); (try clear hk); (try clear hi))))
 (try simp only [Act.put, List.setIfInBounds_toArray, List.set_cons_zero, List.set_cons_succ])
 go_cut [34] (fun v34 wc => ∃ (kq : Nat) (x34_5 : Bool), v34 = .bool x34_5 ∧ Aside0 (formeref10_Insert.j0 kq l0 a2 x34_5 a1_0 a1_1 a1_2 a1_3 a1_4 = some (r1, r2)) ∧ Aside0 (kq ≤ k) ∧ Aside0 (wc.heap[gb321]? = some (.cells #[.int .i64 a1_0, .int .i64 a1_1, .int .i64 a1_2, .int .i64 a1_3, .string a1_4] 24 (0, 0))) ∧ Aside0 (Below w.heap.size w wc))
 case first =>
  have H := HC6.out
  clear HC6
  by_cases c11 : t322 = true
  ·subst c11
   have H1 : (if a2 = 0 then (if t323 = true then (formeref10_Insert.j0 k l0 a2 (a1_1 == 0) a1_0 a1_1 a1_2 a1_3 a1_4) else (formeref10_Insert.j0 k l0 a2 true a1_0 a1_1 a1_2 a1_3 a1_4)) else ((formeref10_ID.f a2).bind fun t324 => (if t324 = true then (if t323 = true then (formeref10_Insert.j0 k l0 a2 (a1_1 == 0) a1_0 a1_1 a1_2 a1_3 a1_4) else (formeref10_Insert.j0 k l0 a2 true a1_0 a1_1 a1_2 a1_3 a1_4)) else (formeref10_Insert.j0 k l0 a2 true a1_0 a1_1 a1_2 a1_3 a1_4)))) = some (r1, r2) := by rw [if_pos rfl] at H; exact H
   clear H
   have H := H1
   clear H1
   by_cases c12 : a2 = 0
   ·rw [if_pos c12] at H
    have c12b0 : (a2 == 0) = true := beq_iff_eq.mpr c12
    have c12b1 : (a2 != 0) = false := bne_eq_false_iff_eq.mpr c12
    clear c12
    (first | rw [c12b0] | (simp only [i64_w, i32_w]; rw [c12b0]) | skip)
    by_cases c13 : t323 = true
    ·subst c13
     have H1 : (formeref10_Insert.j0 k l0 a2 (a1_1 == 0) a1_0 a1_1 a1_2 a1_3 a1_4) = some (r1, r2) := by rw [if_pos rfl] at H; exact H
     clear H
     have H := H1
     clear H1
     have H' := Aside0.mk H
     clear H
     have hcz14_0 : w10.cell? ⟨gb321, 0, none⟩ = some (.int .i64 a1_0) := (blk_cell BK321.out 0).trans rfl
     have hcz14_1 : w10.cell? ⟨gb321, 1, none⟩ = some (.int .i64 a1_1) := (blk_cell BK321.out 1).trans rfl
     have hcz14_2 : w10.cell? ⟨gb321, 2, none⟩ = some (.int .i64 a1_2) := (blk_cell BK321.out 2).trans rfl
     have hcz14_3 : w10.cell? ⟨gb321, 3, none⟩ = some (.int .i64 a1_3) := (blk_cell BK321.out 3).trans rfl
     have hcz14_4 : w10.cell? ⟨gb321, 4, none⟩ = some (.string a1_4) := (blk_cell BK321.out 4).trans rfl
     have hfz14_0 := blk_frozen BK321.out 0
     have hfz14_1 := blk_frozen BK321.out 1
     have hfz14_2 := blk_frozen BK321.out 2
     have hfz14_3 := blk_frozen BK321.out 3
     have hfz14_4 := blk_frozen BK321.out 4
     go_wp2
     repeat (go_quiet (fail); try go_wp2)
     go_meet
     case rel => exact ⟨_, ((a1_1 == 0)), z9_, H', ⟨by first | omega | exact Nat.le_refl _⟩, ⟨by (with_reducible repeat (first | refine blk_drewN ?_ _ | refine blk_drew ?_ | refine blk_alloc ?_ _)); exact BK321.out⟩, ⟨by repeat (first | (with_reducible first | exact HB.out | apply below_alloc | apply pw_below_drewN | apply below_drew1 | refine below_set ?_ GE321.out) | exact HB.out)⟩⟩
    ·replace c13 := Bool.eq_false_iff.mpr c13
     subst c13
     have H1 : (formeref10_Insert.j0 k l0 a2 true a1_0 a1_1 a1_2 a1_3 a1_4) = some (r1, r2) := by rw [if_neg (show ¬ (false = true) by decide)] at H; exact H
     clear H
     have H := H1
     clear H1
     have H' := Aside0.mk H
     clear H
     go_wp2
     repeat (go_quiet (fail); try go_wp2)
     go_meet
     case rel => exact ⟨_, (true), z9_, H', ⟨by first | omega | exact Nat.le_refl _⟩, ⟨by (with_reducible repeat (first | refine blk_drewN ?_ _ | refine blk_drew ?_ | refine blk_alloc ?_ _)); exact BK321.out⟩, ⟨by repeat (first | (with_reducible first | exact HB.out | apply below_alloc | apply pw_below_drewN | apply below_drew1 | refine below_set ?_ GE321.out) | exact HB.out)⟩⟩
   ·rw [if_neg c12] at H
    have c12b0 : (a2 == 0) = false := beq_eq_false_iff_ne.mpr c12
    have c12b1 : (a2 != 0) = true := bne_iff_ne.mpr c12
    (first | rw [c12b0] | (simp only [i64_w, i32_w]; rw [c12b0]) | skip)
    replace H := Option.bind_eq_some_iff.mp H
    obtain ⟨t324, A150, H⟩ := H
    try dsimp only at H
    have A15 := Aside0.mk A150
    clear A150
    by_cases c16 : t324 = true
    ·subst c16
     have H1 : (if t323 = true then (formeref10_Insert.j0 k l0 a2 (a1_1 == 0) a1_0 a1_1 a1_2 a1_3 a1_4) else (formeref10_Insert.j0 k l0 a2 true a1_0 a1_1 a1_2 a1_3 a1_4)) = some (r1, r2) := by rw [if_pos rfl] at H; exact H
     clear H
     have H := H1
     clear H1
     by_cases c17 : t323 = true
     ·subst c17
      have H1 : (formeref10_Insert.j0 k l0 a2 (a1_1 == 0) a1_0 a1_1 a1_2 a1_3 a1_4) = some (r1, r2) := by rw [if_pos rfl] at H; exact H
      clear H
      have H := H1
      clear H1
      have H' := Aside0.mk H
      clear H
      go_wp2_with (first | (go_at_call 33; (with_reducible refine (formeref10_ID.calls a2 true _ A15.out).mono ?_); rintro e w' ⟨rfl, ⟨nd, rfl⟩⟩; (try first | exact ⟨rfl, _, World.drewN_drewN _ _ _⟩ | exact ⟨rfl, _, Eq.trans (World.drewN_drewN _ _ _) (congrArg (World.drewN _) (Nat.add_assoc _ _ _))⟩); have hcz18_0 : w10.cell? ⟨gb321, 0, none⟩ = some (.int .i64 a1_0) := (blk_cell BK321.out 0).trans rfl; have hcz18_1 : w10.cell? ⟨gb321, 1, none⟩ = some (.int .i64 a1_1) := (blk_cell BK321.out 1).trans rfl; have hcz18_2 : w10.cell? ⟨gb321, 2, none⟩ = some (.int .i64 a1_2) := (blk_cell BK321.out 2).trans rfl; have hcz18_3 : w10.cell? ⟨gb321, 3, none⟩ = some (.int .i64 a1_3) := (blk_cell BK321.out 3).trans rfl; have hcz18_4 : w10.cell? ⟨gb321, 4, none⟩ = some (.string a1_4) := (blk_cell BK321.out 4).trans rfl; have hfz18_0 := blk_frozen BK321.out 0; have hfz18_1 := blk_frozen BK321.out 1; have hfz18_2 := blk_frozen BK321.out 2; have hfz18_3 := blk_frozen BK321.out 3; have hfz18_4 := blk_frozen BK321.out 4))
      repeat (go_quiet (first | (go_at_call 33; (with_reducible refine (formeref10_ID.calls a2 true _ A15.out).mono ?_); rintro e w' ⟨rfl, ⟨nd, rfl⟩⟩; (try first | exact ⟨rfl, _, World.drewN_drewN _ _ _⟩ | exact ⟨rfl, _, Eq.trans (World.drewN_drewN _ _ _) (congrArg (World.drewN _) (Nat.add_assoc _ _ _))⟩); have hcz18_0 : w10.cell? ⟨gb321, 0, none⟩ = some (.int .i64 a1_0) := (blk_cell BK321.out 0).trans rfl; have hcz18_1 : w10.cell? ⟨gb321, 1, none⟩ = some (.int .i64 a1_1) := (blk_cell BK321.out 1).trans rfl; have hcz18_2 : w10.cell? ⟨gb321, 2, none⟩ = some (.int .i64 a1_2) := (blk_cell BK321.out 2).trans rfl; have hcz18_3 : w10.cell? ⟨gb321, 3, none⟩ = some (.int .i64 a1_3) := (blk_cell BK321.out 3).trans rfl; have hcz18_4 : w10.cell? ⟨gb321, 4, none⟩ = some (.string a1_4) := (blk_cell BK321.out 4).trans rfl; have hfz18_0 := blk_frozen BK321.out 0; have hfz18_1 := blk_frozen BK321.out 1; have hfz18_2 := blk_frozen BK321.out 2; have hfz18_3 := blk_frozen BK321.out 3; have hfz18_4 := blk_frozen BK321.out 4)); try go_wp2_with (first | (go_at_call 33; (with_reducible refine (formeref10_ID.calls a2 true _ A15.out).mono ?_); rintro e w' ⟨rfl, ⟨nd, rfl⟩⟩; (try first | exact ⟨rfl, _, World.drewN_drewN _ _ _⟩ | exact ⟨rfl, _, Eq.trans (World.drewN_drewN _ _ _) (congrArg (World.drewN _) (Nat.add_assoc _ _ _))⟩); have hcz18_0 : w10.cell? ⟨gb321, 0, none⟩ = some (.int .i64 a1_0) := (blk_cell BK321.out 0).trans rfl; have hcz18_1 : w10.cell? ⟨gb321, 1, none⟩ = some (.int .i64 a1_1) := (blk_cell BK321.out 1).trans rfl; have hcz18_2 : w10.cell? ⟨gb321, 2, none⟩ = some (.int .i64 a1_2) := (blk_cell BK321.out 2).trans rfl; have hcz18_3 : w10.cell? ⟨gb321, 3, none⟩ = some (.int .i64 a1_3) := (blk_cell BK321.out 3).trans rfl; have hcz18_4 : w10.cell? ⟨gb321, 4, none⟩ = some (.string a1_4) := (blk_cell BK321.out 4).trans rfl; have hfz18_0 := blk_frozen BK321.out 0; have hfz18_1 := blk_frozen BK321.out 1; have hfz18_2 := blk_frozen BK321.out 2; have hfz18_3 := blk_frozen BK321.out 3; have hfz18_4 := blk_frozen BK321.out 4)))
      go_meet
      case rel => exact ⟨_, ((a1_1 == 0)), z9_, H', ⟨by first | omega | exact Nat.le_refl _⟩, ⟨by (with_reducible repeat (first | refine blk_drewN ?_ _ | refine blk_drew ?_ | refine blk_alloc ?_ _)); exact BK321.out⟩, ⟨by repeat (first | (with_reducible first | exact HB.out | apply below_alloc | apply pw_below_drewN | apply below_drew1 | refine below_set ?_ GE321.out) | exact HB.out)⟩⟩
     ·replace c17 := Bool.eq_false_iff.mpr c17
      subst c17
      have H1 : (formeref10_Insert.j0 k l0 a2 true a1_0 a1_1 a1_2 a1_3 a1_4) = some (r1, r2) := by rw [if_neg (show ¬ (false = true) by decide)] at H; exact H
      clear H
      have H := H1
      clear H1
      have H' := Aside0.mk H
      clear H
      go_wp2_with (first | (go_at_call 33; (with_reducible refine (formeref10_ID.calls a2 true _ A15.out).mono ?_); rintro e w' ⟨rfl, ⟨nd, rfl⟩⟩; (try first | exact ⟨rfl, _, World.drewN_drewN _ _ _⟩ | exact ⟨rfl, _, Eq.trans (World.drewN_drewN _ _ _) (congrArg (World.drewN _) (Nat.add_assoc _ _ _))⟩)))
      repeat (go_quiet (first | (go_at_call 33; (with_reducible refine (formeref10_ID.calls a2 true _ A15.out).mono ?_); rintro e w' ⟨rfl, ⟨nd, rfl⟩⟩; (try first | exact ⟨rfl, _, World.drewN_drewN _ _ _⟩ | exact ⟨rfl, _, Eq.trans (World.drewN_drewN _ _ _) (congrArg (World.drewN _) (Nat.add_assoc _ _ _))⟩))); try go_wp2_with (first | (go_at_call 33; (with_reducible refine (formeref10_ID.calls a2 true _ A15.out).mono ?_); rintro e w' ⟨rfl, ⟨nd, rfl⟩⟩; (try first | exact ⟨rfl, _, World.drewN_drewN _ _ _⟩ | exact ⟨rfl, _, Eq.trans (World.drewN_drewN _ _ _) (congrArg (World.drewN _) (Nat.add_assoc _ _ _))⟩))))
      go_meet
      case rel => exact ⟨_, (true), z9_, H', ⟨by first | omega | exact Nat.le_refl _⟩, ⟨by (with_reducible repeat (first | refine blk_drewN ?_ _ | refine blk_drew ?_ | refine blk_alloc ?_ _)); exact BK321.out⟩, ⟨by repeat (first | (with_reducible first | exact HB.out | apply below_alloc | apply pw_below_drewN | apply below_drew1 | refine below_set ?_ GE321.out) | exact HB.out)⟩⟩
    ·replace c16 := Bool.eq_false_iff.mpr c16
     subst c16
     have H1 : (formeref10_Insert.j0 k l0 a2 true a1_0 a1_1 a1_2 a1_3 a1_4) = some (r1, r2) := by rw [if_neg (show ¬ (false = true) by decide)] at H; exact H
     clear H
     have H := H1
     clear H1
     have H' := Aside0.mk H
     clear H
     go_wp2_with (first | (go_at_call 33; (with_reducible refine (formeref10_ID.calls a2 false _ A15.out).mono ?_); rintro e w' ⟨rfl, ⟨nd, rfl⟩⟩; (try first | exact ⟨rfl, _, World.drewN_drewN _ _ _⟩ | exact ⟨rfl, _, Eq.trans (World.drewN_drewN _ _ _) (congrArg (World.drewN _) (Nat.add_assoc _ _ _))⟩)))
     repeat (go_quiet (first | (go_at_call 33; (with_reducible refine (formeref10_ID.calls a2 false _ A15.out).mono ?_); rintro e w' ⟨rfl, ⟨nd, rfl⟩⟩; (try first | exact ⟨rfl, _, World.drewN_drewN _ _ _⟩ | exact ⟨rfl, _, Eq.trans (World.drewN_drewN _ _ _) (congrArg (World.drewN _) (Nat.add_assoc _ _ _))⟩))); try go_wp2_with (first | (go_at_call 33; (with_reducible refine (formeref10_ID.calls a2 false _ A15.out).mono ?_); rintro e w' ⟨rfl, ⟨nd, rfl⟩⟩; (try first | exact ⟨rfl, _, World.drewN_drewN _ _ _⟩ | exact ⟨rfl, _, Eq.trans (World.drewN_drewN _ _ _) (congrArg (World.drewN _) (Nat.add_assoc _ _ _))⟩))))
     go_meet
     case rel => exact ⟨_, (true), z9_, H', ⟨by first | omega | exact Nat.le_refl _⟩, ⟨by (with_reducible repeat (first | refine blk_drewN ?_ _ | refine blk_drew ?_ | refine blk_alloc ?_ _)); exact BK321.out⟩, ⟨by repeat (first | (with_reducible first | exact HB.out | apply below_alloc | apply pw_below_drewN | apply below_drew1 | refine below_set ?_ GE321.out) | exact HB.out)⟩⟩
  ·replace c11 := Bool.eq_false_iff.mpr c11
   subst c11
   have H1 : (formeref10_Insert.j0 k l0 a2 true a1_0 a1_1 a1_2 a1_3 a1_4) = some (r1, r2) := by rw [if_neg (show ¬ (false = true) by decide)] at H; exact H
   clear H
   have H := H1
   clear H1
   have H' := Aside0.mk H
   clear H
   go_wp2
   repeat (go_quiet (fail); try go_wp2)
   go_meet
   case rel => exact ⟨_, (true), z9_, H', ⟨by first | omega | exact Nat.le_refl _⟩, ⟨by (with_reducible repeat (first | refine blk_drewN ?_ _ | refine blk_drew ?_ | refine blk_alloc ?_ _)); exact BK321.out⟩, ⟨by repeat (first | (with_reducible first | exact HB.out | apply below_alloc | apply pw_below_drewN | apply below_drew1 | refine below_set ?_ GE321.out) | exact HB.out)⟩⟩
 case rest =>
  clear HC6
  try clear c1
  try clear c2
  try clear p2
  try clear c11
  try clear c12
  try clear c12b0
  try clear c12b1
  try clear c13
  try clear c16
  try clear c17
  try clear hcz14_0
  try clear hcz14_1
  try clear hcz14_2
  try clear hcz14_3
  try clear hcz14_4
  try clear hcz18_0
  try clear hcz18_1
  try clear hcz18_2
  try clear hcz18_3
  try clear hcz18_4
  try clear hcz9_0
  try clear hcz9_1
  try clear hcz9_2
  try clear hcz9_3
  try clear hcz9_4
  try clear hfz14_0
  try clear hfz14_1
  try clear hfz14_2
  try clear hfz14_3
  try clear hfz14_4
  try clear hfz18_0
  try clear hfz18_1
  try clear hfz18_2
  try clear hfz18_3
  try clear hfz18_4
  try clear hfz9_0
  try clear hfz9_1
  try clear hfz9_2
  try clear hfz9_3
  try clear hfz9_4
  obtain ⟨kq, x34_5, rfl, HA, HJ5, BK321, HB⟩ := hcut
  cases kq with
  | zero => exact absurd HA.out (by simp [formeref10_Insert.j0])
  | succ kj5 =>
   have H := HA.out
   clear HA
   simp only [formeref10_Insert.j0] at H
   by_cases c19 : x34_5 = true
   ·subst c19
    have H1 : (some (([] : List (S24)), 1)) = some (r1, r2) := by rw [if_pos rfl] at H; exact H
    clear H
    have H := H1
    clear H1
    simp only [Option.some.injEq, Prod.mk.injEq] at H
    obtain ⟨rfl, rfl⟩ := H
    go_wp2
    repeat (go_quiet (fail); try go_wp2)
    go_ret2
    exact ⟨_, by first | rfl | (simp [errW_none, errW_some] <;> rfl) | (simp [*, errW_none, errW_some] <;> rfl), by first | exact Kd.R_nil _ _ _ _ _ | exact Kd.N_nil _ _ _ _ _ | exact Kd.V_nil _ _ _ _ _ | exact Kd.Q_nil _ _ _ _ _ | exact Kd.S_nil _ _ _ _ _, by repeat (first | (with_reducible first | exact HB.out | apply below_alloc | apply pw_below_drewN | apply below_drew1 | refine below_set ?_ GE321.out) | exact HB.out)⟩
   ·replace c19 := Bool.eq_false_iff.mpr c19
    subst c19
    have H1 : ((formeref10_Index.f kj5 l0 a1_0).bind fun t325 => (if t325 ≥ 0 then (some (([] : List (S24)), 5)) else ((formeref10_Index.f kj5 l0 a1_1).bind fun t326 => (if t326 < 0 then (some (([] : List (S24)), 4)) else (if a2 = 0 then (formeref10_Insert.j1 kj5 l0 a2 t326 false a1_0 a1_1 a1_2 a1_3 a1_4) else ((formeref10_Children.f kj5 l0 a1_1).bind fun t327 => ((formeref10_Has.f kj5 t327 a2).bind fun t330 => (formeref10_Insert.j1 kj5 l0 a2 t326 (!t330) a1_0 a1_1 a1_2 a1_3 a1_4)))))))) = some (r1, r2) := by rw [if_neg (show ¬ (false = true) by decide)] at H; exact H
    clear H
    have H := H1
    clear H1
    replace H := Option.bind_eq_some_iff.mp H
    obtain ⟨t325, A200, H⟩ := H
    try dsimp only at H
    have A20 := Aside0.mk A200
    clear A200
    by_cases c21 : t325 ≥ 0
    ·rw [if_pos c21] at H
     have c21b0 : decide (0 ≤ t325) = true := decide_eq_true c21
     clear c21
     simp only [Option.some.injEq, Prod.mk.injEq] at H
     obtain ⟨rfl, rfl⟩ := H
     have hcz22_0 : wc.cell? ⟨gb321, 0, none⟩ = some (.int .i64 a1_0) := (blk_cell BK321.out 0).trans rfl
     have hcz22_1 : wc.cell? ⟨gb321, 1, none⟩ = some (.int .i64 a1_1) := (blk_cell BK321.out 1).trans rfl
     have hcz22_2 : wc.cell? ⟨gb321, 2, none⟩ = some (.int .i64 a1_2) := (blk_cell BK321.out 2).trans rfl
     have hcz22_3 : wc.cell? ⟨gb321, 3, none⟩ = some (.int .i64 a1_3) := (blk_cell BK321.out 3).trans rfl
     have hcz22_4 : wc.cell? ⟨gb321, 4, none⟩ = some (.string a1_4) := (blk_cell BK321.out 4).trans rfl
     have hfz22_0 := blk_frozen BK321.out 0
     have hfz22_1 := blk_frozen BK321.out 1
     have hfz22_2 := blk_frozen BK321.out 2
     have hfz22_3 := blk_frozen BK321.out 3
     have hfz22_4 := blk_frozen BK321.out 4
     go_wp2_with (first | (go_at_call 34; (with_reducible refine (formeref10_Index.calls kj5 _ _ l0 a1_0 t325 _ ?side1 ?side2 A20.out).mono ?_); (case side1 => exact z3_); (case side2 => exact HC0.out); rintro e w' ⟨rfl, ⟨nd, rfl⟩⟩; (try first | exact ⟨rfl, _, World.drewN_drewN _ _ _⟩ | exact ⟨rfl, _, Eq.trans (World.drewN_drewN _ _ _) (congrArg (World.drewN _) (Nat.add_assoc _ _ _))⟩)))
     repeat (go_quiet (first | (go_at_call 34; (with_reducible refine (formeref10_Index.calls kj5 _ _ l0 a1_0 t325 _ ?side1 ?side2 A20.out).mono ?_); (case side1 => exact z3_); (case side2 => exact HC0.out); rintro e w' ⟨rfl, ⟨nd, rfl⟩⟩; (try first | exact ⟨rfl, _, World.drewN_drewN _ _ _⟩ | exact ⟨rfl, _, Eq.trans (World.drewN_drewN _ _ _) (congrArg (World.drewN _) (Nat.add_assoc _ _ _))⟩))); try go_wp2_with (first | (go_at_call 34; (with_reducible refine (formeref10_Index.calls kj5 _ _ l0 a1_0 t325 _ ?side1 ?side2 A20.out).mono ?_); (case side1 => exact z3_); (case side2 => exact HC0.out); rintro e w' ⟨rfl, ⟨nd, rfl⟩⟩; (try first | exact ⟨rfl, _, World.drewN_drewN _ _ _⟩ | exact ⟨rfl, _, Eq.trans (World.drewN_drewN _ _ _) (congrArg (World.drewN _) (Nat.add_assoc _ _ _))⟩))))
     go_ret2
     exact ⟨_, by first | rfl | (simp [errW_none, errW_some] <;> rfl) | (simp [*, errW_none, errW_some] <;> rfl), by first | exact Kd.R_nil _ _ _ _ _ | exact Kd.N_nil _ _ _ _ _ | exact Kd.V_nil _ _ _ _ _ | exact Kd.Q_nil _ _ _ _ _ | exact Kd.S_nil _ _ _ _ _, by repeat (first | (with_reducible first | exact HB.out | apply below_alloc | apply pw_below_drewN | apply below_drew1 | refine below_set ?_ GE321.out) | exact HB.out)⟩
    ·rw [if_neg c21] at H
     have c21b0 : decide (0 ≤ t325) = false := decide_eq_false c21
     clear c21
     replace H := Option.bind_eq_some_iff.mp H
     obtain ⟨t326, A230, H⟩ := H
     try dsimp only at H
     have A23 := Aside0.mk A230
     clear A230
     by_cases c24 : t326 < 0
     ·rw [if_pos c24] at H
      have c24b0 : decide (t326 < 0) = true := decide_eq_true c24
      clear c24
      simp only [Option.some.injEq, Prod.mk.injEq] at H
      obtain ⟨rfl, rfl⟩ := H
      have hcz25_0 : wc.cell? ⟨gb321, 0, none⟩ = some (.int .i64 a1_0) := (blk_cell BK321.out 0).trans rfl
      have hcz25_1 : wc.cell? ⟨gb321, 1, none⟩ = some (.int .i64 a1_1) := (blk_cell BK321.out 1).trans rfl
      have hcz25_2 : wc.cell? ⟨gb321, 2, none⟩ = some (.int .i64 a1_2) := (blk_cell BK321.out 2).trans rfl
      have hcz25_3 : wc.cell? ⟨gb321, 3, none⟩ = some (.int .i64 a1_3) := (blk_cell BK321.out 3).trans rfl
      have hcz25_4 : wc.cell? ⟨gb321, 4, none⟩ = some (.string a1_4) := (blk_cell BK321.out 4).trans rfl
      have hfz25_0 := blk_frozen BK321.out 0
      have hfz25_1 := blk_frozen BK321.out 1
      have hfz25_2 := blk_frozen BK321.out 2
      have hfz25_3 := blk_frozen BK321.out 3
      have hfz25_4 := blk_frozen BK321.out 4
      go_wp2_with (first | (go_at_call 34; (with_reducible refine (formeref10_Index.calls kj5 _ _ l0 a1_0 t325 _ ?side1 ?side2 A20.out).mono ?_); (case side1 => exact z3_); (case side2 => exact HC0.out); rintro e w' ⟨rfl, ⟨nd, rfl⟩⟩; (try first | exact ⟨rfl, _, World.drewN_drewN _ _ _⟩ | exact ⟨rfl, _, Eq.trans (World.drewN_drewN _ _ _) (congrArg (World.drewN _) (Nat.add_assoc _ _ _))⟩)) | (go_at_call 34; (with_reducible refine (formeref10_Index.calls kj5 _ _ l0 a1_1 t326 _ ?side1 ?side2 A23.out).mono ?_); (case side1 => exact z36_); (case side2 => exact HC0.out); rintro e w' ⟨rfl, ⟨nd, rfl⟩⟩; (try first | exact ⟨rfl, _, World.drewN_drewN _ _ _⟩ | exact ⟨rfl, _, Eq.trans (World.drewN_drewN _ _ _) (congrArg (World.drewN _) (Nat.add_assoc _ _ _))⟩)))
      repeat (go_quiet (first | (go_at_call 34; (with_reducible refine (formeref10_Index.calls kj5 _ _ l0 a1_0 t325 _ ?side1 ?side2 A20.out).mono ?_); (case side1 => exact z3_); (case side2 => exact HC0.out); rintro e w' ⟨rfl, ⟨nd, rfl⟩⟩; (try first | exact ⟨rfl, _, World.drewN_drewN _ _ _⟩ | exact ⟨rfl, _, Eq.trans (World.drewN_drewN _ _ _) (congrArg (World.drewN _) (Nat.add_assoc _ _ _))⟩)) | (go_at_call 34; (with_reducible refine (formeref10_Index.calls kj5 _ _ l0 a1_1 t326 _ ?side1 ?side2 A23.out).mono ?_); (case side1 => exact z36_); (case side2 => exact HC0.out); rintro e w' ⟨rfl, ⟨nd, rfl⟩⟩; (try first | exact ⟨rfl, _, World.drewN_drewN _ _ _⟩ | exact ⟨rfl, _, Eq.trans (World.drewN_drewN _ _ _) (congrArg (World.drewN _) (Nat.add_assoc _ _ _))⟩))); try go_wp2_with (first | (go_at_call 34; (with_reducible refine (formeref10_Index.calls kj5 _ _ l0 a1_0 t325 _ ?side1 ?side2 A20.out).mono ?_); (case side1 => exact z3_); (case side2 => exact HC0.out); rintro e w' ⟨rfl, ⟨nd, rfl⟩⟩; (try first | exact ⟨rfl, _, World.drewN_drewN _ _ _⟩ | exact ⟨rfl, _, Eq.trans (World.drewN_drewN _ _ _) (congrArg (World.drewN _) (Nat.add_assoc _ _ _))⟩)) | (go_at_call 34; (with_reducible refine (formeref10_Index.calls kj5 _ _ l0 a1_1 t326 _ ?side1 ?side2 A23.out).mono ?_); (case side1 => exact z36_); (case side2 => exact HC0.out); rintro e w' ⟨rfl, ⟨nd, rfl⟩⟩; (try first | exact ⟨rfl, _, World.drewN_drewN _ _ _⟩ | exact ⟨rfl, _, Eq.trans (World.drewN_drewN _ _ _) (congrArg (World.drewN _) (Nat.add_assoc _ _ _))⟩))))
      go_ret2
      exact ⟨_, by first | rfl | (simp [errW_none, errW_some] <;> rfl) | (simp [*, errW_none, errW_some] <;> rfl), by first | exact Kd.R_nil _ _ _ _ _ | exact Kd.N_nil _ _ _ _ _ | exact Kd.V_nil _ _ _ _ _ | exact Kd.Q_nil _ _ _ _ _ | exact Kd.S_nil _ _ _ _ _, by repeat (first | (with_reducible first | exact HB.out | apply below_alloc | apply pw_below_drewN | apply below_drew1 | refine below_set ?_ GE321.out) | exact HB.out)⟩
     ·rw [if_neg c24] at H
      have c24b0 : decide (t326 < 0) = false := decide_eq_false c24
      clear c24
      have HC26 := Aside0.mk H
      clear H
      have hcz27_0 : wc.cell? ⟨gb321, 0, none⟩ = some (.int .i64 a1_0) := (blk_cell BK321.out 0).trans rfl
      have hcz27_1 : wc.cell? ⟨gb321, 1, none⟩ = some (.int .i64 a1_1) := (blk_cell BK321.out 1).trans rfl
      have hcz27_2 : wc.cell? ⟨gb321, 2, none⟩ = some (.int .i64 a1_2) := (blk_cell BK321.out 2).trans rfl
      have hcz27_3 : wc.cell? ⟨gb321, 3, none⟩ = some (.int .i64 a1_3) := (blk_cell BK321.out 3).trans rfl
      have hcz27_4 : wc.cell? ⟨gb321, 4, none⟩ = some (.string a1_4) := (blk_cell BK321.out 4).trans rfl
      have hfz27_0 := blk_frozen BK321.out 0
      have hfz27_1 := blk_frozen BK321.out 1
      have hfz27_2 := blk_frozen BK321.out 2
      have hfz27_3 := blk_frozen BK321.out 3
      have hfz27_4 := blk_frozen BK321.out 4
      go_upto_region 10 with (first | (go_at_call 34; (with_reducible refine (formeref10_Index.calls kj5 _ _ l0 a1_0 t325 _ ?side1 ?side2 A20.out).mono ?_); (case side1 => exact z3_); (case side2 => exact HC0.out); rintro e w' ⟨rfl, ⟨nd, rfl⟩⟩; (try first | exact ⟨rfl, _, World.drewN_drewN _ _ _⟩ | exact ⟨rfl, _, Eq.trans (World.drewN_drewN _ _ _) (congrArg (World.drewN _) (Nat.add_assoc _ _ _))⟩)) | (go_at_call 34; (with_reducible refine (formeref10_Index.calls kj5 _ _ l0 a1_1 t326 _ ?side1 ?side2 A23.out).mono ?_); (case side1 => exact z36_); (case side2 => exact HC0.out); rintro e w' ⟨rfl, ⟨nd, rfl⟩⟩; (try first | exact ⟨rfl, _, World.drewN_drewN _ _ _⟩ | exact ⟨rfl, _, Eq.trans (World.drewN_drewN _ _ _) (congrArg (World.drewN _) (Nat.add_assoc _ _ _))⟩)))
      repeat (go_quiet (first | (go_at_call 34; (with_reducible refine (formeref10_Index.calls kj5 _ _ l0 a1_0 t325 _ ?side1 ?side2 A20.out).mono ?_); (case side1 => exact z3_); (case side2 => exact HC0.out); rintro e w' ⟨rfl, ⟨nd, rfl⟩⟩; (try first | exact ⟨rfl, _, World.drewN_drewN _ _ _⟩ | exact ⟨rfl, _, Eq.trans (World.drewN_drewN _ _ _) (congrArg (World.drewN _) (Nat.add_assoc _ _ _))⟩)) | (go_at_call 34; (with_reducible refine (formeref10_Index.calls kj5 _ _ l0 a1_1 t326 _ ?side1 ?side2 A23.out).mono ?_); (case side1 => exact z36_); (case side2 => exact HC0.out); rintro e w' ⟨rfl, ⟨nd, rfl⟩⟩; (try first | exact ⟨rfl, _, World.drewN_drewN _ _ _⟩ | exact ⟨rfl, _, Eq.trans (World.drewN_drewN _ _ _) (congrArg (World.drewN _) (Nat.add_assoc _ _ _))⟩))); go_upto_region 10 with (first | (go_at_call 34; (with_reducible refine (formeref10_Index.calls kj5 _ _ l0 a1_0 t325 _ ?side1 ?side2 A20.out).mono ?_); (case side1 => exact z3_); (case side2 => exact HC0.out); rintro e w' ⟨rfl, ⟨nd, rfl⟩⟩; (try first | exact ⟨rfl, _, World.drewN_drewN _ _ _⟩ | exact ⟨rfl, _, Eq.trans (World.drewN_drewN _ _ _) (congrArg (World.drewN _) (Nat.add_assoc _ _ _))⟩)) | (go_at_call 34; (with_reducible refine (formeref10_Index.calls kj5 _ _ l0 a1_1 t326 _ ?side1 ?side2 A23.out).mono ?_); (case side1 => exact z36_); (case side2 => exact HC0.out); rintro e w' ⟨rfl, ⟨nd, rfl⟩⟩; (try first | exact ⟨rfl, _, World.drewN_drewN _ _ _⟩ | exact ⟨rfl, _, Eq.trans (World.drewN_drewN _ _ _) (congrArg (World.drewN _) (Nat.add_assoc _ _ _))⟩))))
      (try simp only [Act.put, List.setIfInBounds_toArray, List.set_cons_zero, List.set_cons_succ])
      go_cut [56] (fun v56 wc => ∃ (kq : Nat) (x56_25 : Bool), v56 = .bool x56_25 ∧ Aside0 (formeref10_Insert.j1 kq l0 a2 t326 x56_25 a1_0 a1_1 a1_2 a1_3 a1_4 = some (r1, r2)) ∧ Aside0 (kq ≤ kj5) ∧ Aside0 (wc.heap[gb321]? = some (.cells #[.int .i64 a1_0, .int .i64 a1_1, .int .i64 a1_2, .int .i64 a1_3, .string a1_4] 24 (0, 0))) ∧ Aside0 (Below w.heap.size w wc))
      case first =>
       have H := HC26.out
       clear HC26
       by_cases c28 : a2 = 0
       ·rw [if_pos c28] at H
        have c28b0 : (a2 == 0) = true := beq_iff_eq.mpr c28
        have c28b1 : (a2 != 0) = false := bne_eq_false_iff_eq.mpr c28
        clear c28
        (first | rw [c28b0] | (simp only [i64_w, i32_w]; rw [c28b0]) | skip)
        have H' := Aside0.mk H
        clear H
        go_wp2
        repeat (go_quiet (fail); try go_wp2)
        go_meet
        case rel => exact ⟨_, (false), z9_, H', ⟨by have := HJ5.out; first | omega | exact Nat.le_refl _⟩, ⟨by (with_reducible repeat (first | refine blk_drewN ?_ _ | refine blk_drew ?_ | refine blk_alloc ?_ _)); exact BK321.out⟩, ⟨by repeat (first | (with_reducible first | exact HB.out | apply below_alloc | apply pw_below_drewN | apply below_drew1 | refine below_set ?_ GE321.out) | exact HB.out)⟩⟩
       ·rw [if_neg c28] at H
        have c28b0 : (a2 == 0) = false := beq_eq_false_iff_ne.mpr c28
        have c28b1 : (a2 != 0) = true := bne_iff_ne.mpr c28
        (first | rw [c28b0] | (simp only [i64_w, i32_w]; rw [c28b0]) | skip)
        replace H := Option.bind_eq_some_iff.mp H
        obtain ⟨t327, A290, H⟩ := H
        try dsimp only at H
        have A29 := Aside0.mk A290
        clear A290
        replace H := Option.bind_eq_some_iff.mp H
        obtain ⟨t330, A300, H⟩ := H
        try dsimp only at H
        have A30 := Aside0.mk A300
        clear A300
        have H' := Aside0.mk H
        clear H
        have hcz31_0 : wc.cell? ⟨gb321, 0, none⟩ = some (.int .i64 a1_0) := (blk_cell BK321.out 0).trans rfl
        have hcz31_1 : wc.cell? ⟨gb321, 1, none⟩ = some (.int .i64 a1_1) := (blk_cell BK321.out 1).trans rfl
        have hcz31_2 : wc.cell? ⟨gb321, 2, none⟩ = some (.int .i64 a1_2) := (blk_cell BK321.out 2).trans rfl
        have hcz31_3 : wc.cell? ⟨gb321, 3, none⟩ = some (.int .i64 a1_3) := (blk_cell BK321.out 3).trans rfl
        have hcz31_4 : wc.cell? ⟨gb321, 4, none⟩ = some (.string a1_4) := (blk_cell BK321.out 4).trans rfl
        have hfz31_0 := blk_frozen BK321.out 0
        have hfz31_1 := blk_frozen BK321.out 1
        have hfz31_2 := blk_frozen BK321.out 2
        have hfz31_3 := blk_frozen BK321.out 3
        have hfz31_4 := blk_frozen BK321.out 4
        go_wp2_with (first | (go_at_call 39; (with_reducible refine (formeref10_Children.calls kj5 _ _ l0 a1_1 t327 _ ?side1 ?side2 A29.out).mono ?_); (case side1 => exact z3_); (case side2 => exact HC0.out); rintro e w32 ⟨v328, rfl, ho0, hb⟩; have n0_ := Aside0.mk (Kd.R_lower ho0 (below_size z5_)); have n1_ := Aside0.mk (blk_below (g := gb321) (o := .cells #[.int .i64 a1_0, .int .i64 a1_1, .int .i64 a1_2, .int .i64 a1_3, .string a1_4] 24 (0, 0)) z11_ hb); have n2_ := Aside0.mk (below_step z5_ hb); clear BK321; clear HB; have HO329 := n0_; have BK321 := n1_; have HB := n2_; clear n0_ n1_ n2_; (try clear hb); (try clear hb2); (try clear hk); (try clear hi); (try clear ho0); obtain ⟨Ao33, co33, eo33⟩ := Kd.R_slice HO329.out; subst eo33) | (go_at_call 29; (with_reducible refine (formeref10_Has.calls kj5 _ _ t327 a2 t330 _ ?side1 ?side2 A30.out).mono ?_); (case side1 => exact z55_); (case side2 => exact (Kd.R_reads' HO329.out).2.1); rintro e w' ⟨rfl, ⟨nd, rfl⟩⟩; (try first | exact ⟨rfl, _, World.drewN_drewN _ _ _⟩ | exact ⟨rfl, _, Eq.trans (World.drewN_drewN _ _ _) (congrArg (World.drewN _) (Nat.add_assoc _ _ _))⟩)))
        repeat (go_quiet (first | (go_at_call 39; (with_reducible refine (formeref10_Children.calls kj5 _ _ l0 a1_1 t327 _ ?side1 ?side2 A29.out).mono ?_); (case side1 => exact z3_); (case side2 => exact HC0.out); rintro e w32 ⟨v328, rfl, ho0, hb⟩; have n0_ := Aside0.mk (Kd.R_lower ho0 (below_size z5_)); have n1_ := Aside0.mk (blk_below (g := gb321) (o := .cells #[.int .i64 a1_0, .int .i64 a1_1, .int .i64 a1_2, .int .i64 a1_3, .string a1_4] 24 (0, 0)) z11_ hb); have n2_ := Aside0.mk (below_step z5_ hb); clear BK321; clear HB; have HO329 := n0_; have BK321 := n1_; have HB := n2_; clear n0_ n1_ n2_; (try clear hb); (try clear hb2); (try clear hk); (try clear hi); (try clear ho0); obtain ⟨Ao33, co33, eo33⟩ := Kd.R_slice HO329.out; subst eo33) | (go_at_call 29; (with_reducible refine (formeref10_Has.calls kj5 _ _ t327 a2 t330 _ ?side1 ?side2 A30.out).mono ?_); (case side1 => exact z55_); (case side2 => exact (Kd.R_reads' HO329.out).2.1); rintro e w' ⟨rfl, ⟨nd, rfl⟩⟩; (try first | exact ⟨rfl, _, World.drewN_drewN _ _ _⟩ | exact ⟨rfl, _, Eq.trans (World.drewN_drewN _ _ _) (congrArg (World.drewN _) (Nat.add_assoc _ _ _))⟩))); try go_wp2_with (first | (go_at_call 39; (with_reducible refine (formeref10_Children.calls kj5 _ _ l0 a1_1 t327 _ ?side1 ?side2 A29.out).mono ?_); (case side1 => exact z3_); (case side2 => exact HC0.out); rintro e w32 ⟨v328, rfl, ho0, hb⟩; have n0_ := Aside0.mk (Kd.R_lower ho0 (below_size z5_)); have n1_ := Aside0.mk (blk_below (g := gb321) (o := .cells #[.int .i64 a1_0, .int .i64 a1_1, .int .i64 a1_2, .int .i64 a1_3, .string a1_4] 24 (0, 0)) z11_ hb); have n2_ := Aside0.mk (below_step z5_ hb); clear BK321; clear HB; have HO329 := n0_; have BK321 := n1_; have HB := n2_; clear n0_ n1_ n2_; (try clear hb); (try clear hb2); (try clear hk); (try clear hi); (try clear ho0); obtain ⟨Ao33, co33, eo33⟩ := Kd.R_slice HO329.out; subst eo33) | (go_at_call 29; (with_reducible refine (formeref10_Has.calls kj5 _ _ t327 a2 t330 _ ?side1 ?side2 A30.out).mono ?_); (case side1 => exact z55_); (case side2 => exact (Kd.R_reads' HO329.out).2.1); rintro e w' ⟨rfl, ⟨nd, rfl⟩⟩; (try first | exact ⟨rfl, _, World.drewN_drewN _ _ _⟩ | exact ⟨rfl, _, Eq.trans (World.drewN_drewN _ _ _) (congrArg (World.drewN _) (Nat.add_assoc _ _ _))⟩))))
        go_meet
        case rel => exact ⟨_, (!t330), z9_, H', ⟨by have := HJ5.out; first | omega | exact Nat.le_refl _⟩, ⟨by (with_reducible repeat (first | refine blk_drewN ?_ _ | refine blk_drew ?_ | refine blk_alloc ?_ _)); exact BK321.out⟩, ⟨by repeat (first | (with_reducible first | exact HB.out | apply below_alloc | apply pw_below_drewN | apply below_drew1 | refine below_set ?_ GE321.out) | exact HB.out)⟩⟩
      case rest =>
       clear HC26
       try clear c1
       try clear c2
       try clear p2
       try clear c11
       try clear c12
       try clear c12b0
       try clear c12b1
       try clear c13
       try clear c16
       try clear c17
       try clear c19
       try clear c21
       try clear c21b0
       try clear c24
       try clear c24b0
       try clear c28
       try clear c28b0
       try clear c28b1
       try clear hcz14_0
       try clear hcz14_1
       try clear hcz14_2
       try clear hcz14_3
       try clear hcz14_4
       try clear hcz18_0
       try clear hcz18_1
       try clear hcz18_2
       try clear hcz18_3
       try clear hcz18_4
       try clear hcz22_0
       try clear hcz22_1
       try clear hcz22_2
       try clear hcz22_3
       try clear hcz22_4
       try clear hcz25_0
       try clear hcz25_1
       try clear hcz25_2
       try clear hcz25_3
       try clear hcz25_4
       try clear hcz27_0
       try clear hcz27_1
       try clear hcz27_2
       try clear hcz27_3
       try clear hcz27_4
       try clear hcz31_0
       try clear hcz31_1
       try clear hcz31_2
       try clear hcz31_3
       try clear hcz31_4
       try clear hcz9_0
       try clear hcz9_1
       try clear hcz9_2
       try clear hcz9_3
       try clear hcz9_4
       try clear hfz14_0
       try clear hfz14_1
       try clear hfz14_2
       try clear hfz14_3
       try clear hfz14_4
       try clear hfz18_0
       try clear hfz18_1
       try clear hfz18_2
       try clear hfz18_3
       try clear hfz18_4
       try clear hfz22_0
       try clear hfz22_1
       try clear hfz22_2
       try clear hfz22_3
       try clear hfz22_4
       try clear hfz25_0
       try clear hfz25_1
       try clear hfz25_2
       try clear hfz25_3
       try clear hfz25_4
       try clear hfz27_0
       try clear hfz27_1
       try clear hfz27_2
       try clear hfz27_3
       try clear hfz27_4
       try clear hfz31_0
       try clear hfz31_1
       try clear hfz31_2
       try clear hfz31_3
       try clear hfz31_4
       try clear hfz9_0
       try clear hfz9_1
       try clear hfz9_2
       try clear hfz9_3
       try clear hfz9_4
       try clear p2
       obtain ⟨kq, x56_25, rfl, HA, HJ25, BK321, HB⟩ := hcut
       cases kq with
       | zero => exact absurd HA.out (by simp [formeref10_Insert.j1])
       | succ kj25 =>
        have H := HA.out
        clear HA
        simp only [formeref10_Insert.j1] at H
        by_cases c34 : x56_25 = true
        ·subst c34
         have H1 : (some (([] : List (S24)), 24)) = some (r1, r2) := by rw [if_pos rfl] at H; exact H
         clear H
         have H := H1
         clear H1
         simp only [Option.some.injEq, Prod.mk.injEq] at H
         obtain ⟨rfl, rfl⟩ := H
         go_wp2
         repeat (go_quiet (fail); try go_wp2)
         go_ret2
         exact ⟨_, by first | rfl | (simp [errW_none, errW_some] <;> rfl) | (simp [*, errW_none, errW_some] <;> rfl), by first | exact Kd.R_nil _ _ _ _ _ | exact Kd.N_nil _ _ _ _ _ | exact Kd.V_nil _ _ _ _ _ | exact Kd.Q_nil _ _ _ _ _ | exact Kd.S_nil _ _ _ _ _, by repeat (first | (with_reducible first | exact HB.out | apply below_alloc | apply pw_below_drewN | apply below_drew1 | refine below_set ?_ GE321.out) | exact HB.out)⟩
        ·replace c34 := Bool.eq_false_iff.mpr c34
         subst c34
         have H1 : (if 0 ≤ t326 then (if t326 < (l0.length : Int) then ((formeref10_Stands.f a1_2 ((rd_T24 l0 t326).f2)).bind fun t332 => (if t332 = true then (if (l0.length : Int) = 4000 then (some (([] : List (S24)), 2)) else ((formeref10_Way.f kj25 l0 a1_1).bind fun t333 => (if (t333.length : Int) = 30 then (some (([] : List (S24)), 2)) else ((formeref10_put.f kj25 l0 (([(⟨a1_0, a1_1, a1_2, a1_3, a1_4⟩ : S24)] : List (S24))) a2).bind fun t339 => (some (t339, 0)))))) else (some (([] : List (S24)), 25)))) else (none)) else (none)) = some (r1, r2) := by rw [if_neg (show ¬ (false = true) by decide)] at H; exact H
         clear H
         have H := H1
         clear H1
         by_cases c35 : 0 ≤ t326
         ·rw [if_pos c35] at H
          have c35b0 : decide (0 ≤ t326) = true := decide_eq_true c35
          clear c35
          by_cases c36 : t326 < (l0.length : Int)
          rotate_left
          ·rw [if_neg c36] at H; exact absurd H (by simp)
          rw [if_pos c36] at H
          have c36b0 : decide (t326 < (l0.length : Int)) = true := decide_eq_true c36
          clear c36
          replace H := Option.bind_eq_some_iff.mp H
          obtain ⟨t332, A370, H⟩ := H
          try dsimp only at H
          have A37 := Aside0.mk A370
          clear A370
          by_cases c38 : t332 = true
          ·subst c38
           have H1 : (if (l0.length : Int) = 4000 then (some (([] : List (S24)), 2)) else ((formeref10_Way.f kj25 l0 a1_1).bind fun t333 => (if (t333.length : Int) = 30 then (some (([] : List (S24)), 2)) else ((formeref10_put.f kj25 l0 (([(⟨a1_0, a1_1, a1_2, a1_3, a1_4⟩ : S24)] : List (S24))) a2).bind fun t339 => (some (t339, 0)))))) = some (r1, r2) := by rw [if_pos rfl] at H; exact H
           clear H
           have H := H1
           clear H1
           by_cases c39 : (l0.length : Int) = 4000
           ·rw [if_pos c39] at H
            have c39b0 : ((l0.length : Int) == 4000) = true := beq_iff_eq.mpr c39
            have c39b1 : ((l0.length : Int) != 4000) = false := bne_eq_false_iff_eq.mpr c39
            clear c39
            simp only [Option.some.injEq, Prod.mk.injEq] at H
            obtain ⟨rfl, rfl⟩ := H
            have hcz40_0 : wc.cell? ⟨gb321, 0, none⟩ = some (.int .i64 a1_0) := (blk_cell BK321.out 0).trans rfl
            have hcz40_1 : wc.cell? ⟨gb321, 1, none⟩ = some (.int .i64 a1_1) := (blk_cell BK321.out 1).trans rfl
            have hcz40_2 : wc.cell? ⟨gb321, 2, none⟩ = some (.int .i64 a1_2) := (blk_cell BK321.out 2).trans rfl
            have hcz40_3 : wc.cell? ⟨gb321, 3, none⟩ = some (.int .i64 a1_3) := (blk_cell BK321.out 3).trans rfl
            have hcz40_4 : wc.cell? ⟨gb321, 4, none⟩ = some (.string a1_4) := (blk_cell BK321.out 4).trans rfl
            have hfz40_0 := blk_frozen BK321.out 0
            have hfz40_1 := blk_frozen BK321.out 1
            have hfz40_2 := blk_frozen BK321.out 2
            have hfz40_3 := blk_frozen BK321.out 3
            have hfz40_4 := blk_frozen BK321.out 4
            have p331 : 0 ≤ (t326 : Int) := of_decide_eq_true z4_
            have q331 : t326 < (l0.length : Int) := of_decide_eq_true z4_
            obtain ⟨ad331, e331, hx331_0, hx331_1, hx331_2, hx331_3, hx331_4⟩ := at_T24 HR0.out t326 p331 q331
            cases e331
            replace hx331_0 := hbc_ HB.out hx331_0
            replace hx331_1 := hbc_ HB.out hx331_1
            replace hx331_2 := hbc_ HB.out hx331_2
            replace hx331_3 := hbc_ HB.out hx331_3
            replace hx331_4 := hbc_ HB.out hx331_4
            replace p331 := eq_true p331
            replace q331 := eq_true q331
            go_wp2_with (first | (go_at_call 46; (with_reducible refine (formeref10_Stands.calls a1_2 ((rd_T24 l0 t326).f2) true _ A37.out).mono ?_); rintro e w' ⟨rfl, ⟨nd, rfl⟩⟩; (try first | exact ⟨rfl, _, World.drewN_drewN _ _ _⟩ | exact ⟨rfl, _, Eq.trans (World.drewN_drewN _ _ _) (congrArg (World.drewN _) (Nat.add_assoc _ _ _))⟩)))
            repeat (go_quiet (first | (go_at_call 46; (with_reducible refine (formeref10_Stands.calls a1_2 ((rd_T24 l0 t326).f2) true _ A37.out).mono ?_); rintro e w' ⟨rfl, ⟨nd, rfl⟩⟩; (try first | exact ⟨rfl, _, World.drewN_drewN _ _ _⟩ | exact ⟨rfl, _, Eq.trans (World.drewN_drewN _ _ _) (congrArg (World.drewN _) (Nat.add_assoc _ _ _))⟩))); try go_wp2_with (first | (go_at_call 46; (with_reducible refine (formeref10_Stands.calls a1_2 ((rd_T24 l0 t326).f2) true _ A37.out).mono ?_); rintro e w' ⟨rfl, ⟨nd, rfl⟩⟩; (try first | exact ⟨rfl, _, World.drewN_drewN _ _ _⟩ | exact ⟨rfl, _, Eq.trans (World.drewN_drewN _ _ _) (congrArg (World.drewN _) (Nat.add_assoc _ _ _))⟩))))
            go_ret2
            exact ⟨_, by first | rfl | (simp [errW_none, errW_some] <;> rfl) | (simp [*, errW_none, errW_some] <;> rfl), by first | exact Kd.R_nil _ _ _ _ _ | exact Kd.N_nil _ _ _ _ _ | exact Kd.V_nil _ _ _ _ _ | exact Kd.Q_nil _ _ _ _ _ | exact Kd.S_nil _ _ _ _ _, by repeat (first | (with_reducible first | exact HB.out | apply below_alloc | apply pw_below_drewN | apply below_drew1 | refine below_set ?_ GE321.out) | exact HB.out)⟩
           ·rw [if_neg c39] at H
            have c39b0 : ((l0.length : Int) == 4000) = false := beq_eq_false_iff_ne.mpr c39
            have c39b1 : ((l0.length : Int) != 4000) = true := bne_iff_ne.mpr c39
            replace H := Option.bind_eq_some_iff.mp H
            obtain ⟨t333, A410, H⟩ := H
            try dsimp only at H
            have A41 := Aside0.mk A410
            clear A410
            by_cases c42 : (t333.length : Int) = 30
            ·rw [if_pos c42] at H
             have c42b0 : ((t333.length : Int) == 30) = true := beq_iff_eq.mpr c42
             have c42b1 : ((t333.length : Int) != 30) = false := bne_eq_false_iff_eq.mpr c42
             clear c42
             simp only [Option.some.injEq, Prod.mk.injEq] at H
             obtain ⟨rfl, rfl⟩ := H
             have hcz43_0 : wc.cell? ⟨gb321, 0, none⟩ = some (.int .i64 a1_0) := (blk_cell BK321.out 0).trans rfl
             have hcz43_1 : wc.cell? ⟨gb321, 1, none⟩ = some (.int .i64 a1_1) := (blk_cell BK321.out 1).trans rfl
             have hcz43_2 : wc.cell? ⟨gb321, 2, none⟩ = some (.int .i64 a1_2) := (blk_cell BK321.out 2).trans rfl
             have hcz43_3 : wc.cell? ⟨gb321, 3, none⟩ = some (.int .i64 a1_3) := (blk_cell BK321.out 3).trans rfl
             have hcz43_4 : wc.cell? ⟨gb321, 4, none⟩ = some (.string a1_4) := (blk_cell BK321.out 4).trans rfl
             have hfz43_0 := blk_frozen BK321.out 0
             have hfz43_1 := blk_frozen BK321.out 1
             have hfz43_2 := blk_frozen BK321.out 2
             have hfz43_3 := blk_frozen BK321.out 3
             have hfz43_4 := blk_frozen BK321.out 4
             have p331 : 0 ≤ (t326 : Int) := of_decide_eq_true z4_
             have q331 : t326 < (l0.length : Int) := of_decide_eq_true z4_
             obtain ⟨ad331, e331, hx331_0, hx331_1, hx331_2, hx331_3, hx331_4⟩ := at_T24 HR0.out t326 p331 q331
             cases e331
             replace hx331_0 := hbc_ HB.out hx331_0
             replace hx331_1 := hbc_ HB.out hx331_1
             replace hx331_2 := hbc_ HB.out hx331_2
             replace hx331_3 := hbc_ HB.out hx331_3
             replace hx331_4 := hbc_ HB.out hx331_4
             replace p331 := eq_true p331
             replace q331 := eq_true q331
             go_wp2_with (first | (go_at_call 46; (with_reducible refine (formeref10_Stands.calls a1_2 ((rd_T24 l0 t326).f2) true _ A37.out).mono ?_); rintro e w' ⟨rfl, ⟨nd, rfl⟩⟩; (try first | exact ⟨rfl, _, World.drewN_drewN _ _ _⟩ | exact ⟨rfl, _, Eq.trans (World.drewN_drewN _ _ _) (congrArg (World.drewN _) (Nat.add_assoc _ _ _))⟩)) | (go_at_call 41; (with_reducible refine (formeref10_Way.calls kj25 _ _ l0 a1_1 t333 _ ?side1 ?side2 A41.out).mono ?_); (case side1 => exact z36_); (case side2 => exact HC0.out); rintro e w44 ⟨v334, rfl, ho0, hb⟩; have n0_ := Aside0.mk (Kd.R_lower ho0 (below_size z5_)); have n1_ := Aside0.mk (blk_below (g := gb321) (o := .cells #[.int .i64 a1_0, .int .i64 a1_1, .int .i64 a1_2, .int .i64 a1_3, .string a1_4] 24 (0, 0)) z11_ hb); have n2_ := Aside0.mk (below_step z5_ hb); clear BK321; clear HB; have HO335 := n0_; have BK321 := n1_; have HB := n2_; clear n0_ n1_ n2_; (try clear hb); (try clear hb2); (try clear hk); (try clear hi); (try clear ho0); obtain ⟨Ao45, co45, eo45⟩ := Kd.R_slice HO335.out; subst eo45))
             repeat (go_quiet (first | (go_at_call 46; (with_reducible refine (formeref10_Stands.calls a1_2 ((rd_T24 l0 t326).f2) true _ A37.out).mono ?_); rintro e w' ⟨rfl, ⟨nd, rfl⟩⟩; (try first | exact ⟨rfl, _, World.drewN_drewN _ _ _⟩ | exact ⟨rfl, _, Eq.trans (World.drewN_drewN _ _ _) (congrArg (World.drewN _) (Nat.add_assoc _ _ _))⟩)) | (go_at_call 41; (with_reducible refine (formeref10_Way.calls kj25 _ _ l0 a1_1 t333 _ ?side1 ?side2 A41.out).mono ?_); (case side1 => exact z36_); (case side2 => exact HC0.out); rintro e w44 ⟨v334, rfl, ho0, hb⟩; have n0_ := Aside0.mk (Kd.R_lower ho0 (below_size z5_)); have n1_ := Aside0.mk (blk_below (g := gb321) (o := .cells #[.int .i64 a1_0, .int .i64 a1_1, .int .i64 a1_2, .int .i64 a1_3, .string a1_4] 24 (0, 0)) z11_ hb); have n2_ := Aside0.mk (below_step z5_ hb); clear BK321; clear HB; have HO335 := n0_; have BK321 := n1_; have HB := n2_; clear n0_ n1_ n2_; (try clear hb); (try clear hb2); (try clear hk); (try clear hi); (try clear ho0); obtain ⟨Ao45, co45, eo45⟩ := Kd.R_slice HO335.out; subst eo45)); try go_wp2_with (first | (go_at_call 46; (with_reducible refine (formeref10_Stands.calls a1_2 ((rd_T24 l0 t326).f2) true _ A37.out).mono ?_); rintro e w' ⟨rfl, ⟨nd, rfl⟩⟩; (try first | exact ⟨rfl, _, World.drewN_drewN _ _ _⟩ | exact ⟨rfl, _, Eq.trans (World.drewN_drewN _ _ _) (congrArg (World.drewN _) (Nat.add_assoc _ _ _))⟩)) | (go_at_call 41; (with_reducible refine (formeref10_Way.calls kj25 _ _ l0 a1_1 t333 _ ?side1 ?side2 A41.out).mono ?_); (case side1 => exact z36_); (case side2 => exact HC0.out); rintro e w44 ⟨v334, rfl, ho0, hb⟩; have n0_ := Aside0.mk (Kd.R_lower ho0 (below_size z5_)); have n1_ := Aside0.mk (blk_below (g := gb321) (o := .cells #[.int .i64 a1_0, .int .i64 a1_1, .int .i64 a1_2, .int .i64 a1_3, .string a1_4] 24 (0, 0)) z11_ hb); have n2_ := Aside0.mk (below_step z5_ hb); clear BK321; clear HB; have HO335 := n0_; have BK321 := n1_; have HB := n2_; clear n0_ n1_ n2_; (try clear hb); (try clear hb2); (try clear hk); (try clear hi); (try clear ho0); obtain ⟨Ao45, co45, eo45⟩ := Kd.R_slice HO335.out; subst eo45)))
             go_ret2
             exact ⟨_, by first | rfl | (simp [errW_none, errW_some] <;> rfl) | (simp [*, errW_none, errW_some] <;> rfl), by first | exact Kd.R_nil _ _ _ _ _ | exact Kd.N_nil _ _ _ _ _ | exact Kd.V_nil _ _ _ _ _ | exact Kd.Q_nil _ _ _ _ _ | exact Kd.S_nil _ _ _ _ _, by repeat (first | (with_reducible first | exact HB.out | apply below_alloc | apply pw_below_drewN | apply below_drew1 | refine below_set ?_ GE321.out) | exact HB.out)⟩
            ·rw [if_neg c42] at H
             have c42b0 : ((t333.length : Int) == 30) = false := beq_eq_false_iff_ne.mpr c42
             have c42b1 : ((t333.length : Int) != 30) = true := bne_iff_ne.mpr c42
             obtain ⟨y336, hy336⟩ : ∃ y_ : List (S24), y_ = (([(⟨a1_0, a1_1, a1_2, a1_3, a1_4⟩ : S24)] : List (S24))) := ⟨_, rfl⟩
             replace H : ((formeref10_put.f kj25 l0 y336 a2).bind fun t339 => (some (t339, 0))) = some (r1, r2) := by first | (rw [hy336]; with_reducible exact H) | (have H2_ := (Option.bind_some _ _).symm.trans H; rw [hy336]; with_reducible exact H2_) | (have H2_ := (Option.bind_some _ _).symm.trans H; with_reducible exact H2_) | with_reducible exact H | (rw [hy336]; exact H) | exact H
             have Ny336 := Aside0.mk hy336
             clear hy336
             replace H := Option.bind_eq_some_iff.mp H
             obtain ⟨t339, A460, H⟩ := H
             try dsimp only at H
             have A46 := Aside0.mk A460
             clear A460
             simp only [Option.some.injEq, Prod.mk.injEq] at H
             obtain ⟨rfl, rfl⟩ := H
             have hcz47_0 : wc.cell? ⟨gb321, 0, none⟩ = some (.int .i64 a1_0) := (blk_cell BK321.out 0).trans rfl
             have hcz47_1 : wc.cell? ⟨gb321, 1, none⟩ = some (.int .i64 a1_1) := (blk_cell BK321.out 1).trans rfl
             have hcz47_2 : wc.cell? ⟨gb321, 2, none⟩ = some (.int .i64 a1_2) := (blk_cell BK321.out 2).trans rfl
             have hcz47_3 : wc.cell? ⟨gb321, 3, none⟩ = some (.int .i64 a1_3) := (blk_cell BK321.out 3).trans rfl
             have hcz47_4 : wc.cell? ⟨gb321, 4, none⟩ = some (.string a1_4) := (blk_cell BK321.out 4).trans rfl
             have hfz47_0 := blk_frozen BK321.out 0
             have hfz47_1 := blk_frozen BK321.out 1
             have hfz47_2 := blk_frozen BK321.out 2
             have hfz47_3 := blk_frozen BK321.out 3
             have hfz47_4 := blk_frozen BK321.out 4
             have p331 : 0 ≤ (t326 : Int) := of_decide_eq_true z4_
             have q331 : t326 < (l0.length : Int) := of_decide_eq_true z4_
             obtain ⟨ad331, e331, hx331_0, hx331_1, hx331_2, hx331_3, hx331_4⟩ := at_T24 HR0.out t326 p331 q331
             cases e331
             replace hx331_0 := hbc_ HB.out hx331_0
             replace hx331_1 := hbc_ HB.out hx331_1
             replace hx331_2 := hbc_ HB.out hx331_2
             replace hx331_3 := hbc_ HB.out hx331_3
             replace hx331_4 := hbc_ HB.out hx331_4
             replace p331 := eq_true p331
             replace q331 := eq_true q331
             go_wp2_with (first | (go_at_call 46; (with_reducible refine (formeref10_Stands.calls a1_2 ((rd_T24 l0 t326).f2) true _ A37.out).mono ?_); rintro e w' ⟨rfl, ⟨nd, rfl⟩⟩; (try first | exact ⟨rfl, _, World.drewN_drewN _ _ _⟩ | exact ⟨rfl, _, Eq.trans (World.drewN_drewN _ _ _) (congrArg (World.drewN _) (Nat.add_assoc _ _ _))⟩)) | (go_at_call 41; (with_reducible refine (formeref10_Way.calls kj25 _ _ l0 a1_1 t333 _ ?side1 ?side2 A41.out).mono ?_); (case side1 => exact z36_); (case side2 => exact HC0.out); rintro e w48 ⟨v334, rfl, ho0, hb⟩; have n0_ := Aside0.mk (Kd.R_lower ho0 (below_size z5_)); have n1_ := Aside0.mk (blk_below (g := gb321) (o := .cells #[.int .i64 a1_0, .int .i64 a1_1, .int .i64 a1_2, .int .i64 a1_3, .string a1_4] 24 (0, 0)) z11_ hb); have n2_ := Aside0.mk (below_step z5_ hb); clear BK321; clear HB; have HO335 := n0_; have BK321 := n1_; have HB := n2_; clear n0_ n1_ n2_; (try clear hb); (try clear hb2); (try clear hk); (try clear hi); (try clear ho0); obtain ⟨Ao49, co49, eo49⟩ := Kd.R_slice HO335.out; subst eo49; have hcz50_0 : w48.cell? ⟨gb321, 0, none⟩ = some (.int .i64 a1_0) := (blk_cell BK321.out 0).trans rfl; have hcz50_1 : w48.cell? ⟨gb321, 1, none⟩ = some (.int .i64 a1_1) := (blk_cell BK321.out 1).trans rfl; have hcz50_2 : w48.cell? ⟨gb321, 2, none⟩ = some (.int .i64 a1_2) := (blk_cell BK321.out 2).trans rfl; have hcz50_3 : w48.cell? ⟨gb321, 3, none⟩ = some (.int .i64 a1_3) := (blk_cell BK321.out 3).trans rfl; have hcz50_4 : w48.cell? ⟨gb321, 4, none⟩ = some (.string a1_4) := (blk_cell BK321.out 4).trans rfl; have hfz50_0 := blk_frozen BK321.out 0; have hfz50_1 := blk_frozen BK321.out 1; have hfz50_2 := blk_frozen BK321.out 2; have hfz50_3 := blk_frozen BK321.out 3; have hfz50_4 := blk_frozen BK321.out 4) | ((with_reducible refine gate_dst (N := 79) rfl ?_); (try (refine gate_guard (by rfl) ?_; dsimp only)); refine Kd.R_lit k24 _ 24 ?hg (N := 79) ?hd (xs := ([(⟨a1_0, a1_1, a1_2, a1_3, a1_4⟩ : S24)] : List (S24))) (inner := [.int .i64 a1_0, .int .i64 a1_1, .int .i64 a1_2, .int .i64 a1_3, .string a1_4]) (ok := fun _ => True) (okp := fun _ => True) ?hr ?hp (fun _ hk => hk) trivial (Below.refl _ _) (Nat.le_refl _) (by simp) ?_; (case hd => rfl); (case hg => rfl); (case hr => exact z13_); (case hp => exact z51_); intro v337 w51 ho52 hb hg_ hnew_; clear hg_ hnew_; (first | rw [← Ny336.out] at ho52 | (simp only [Int.reduceToNat] at ho52; rw [← Ny336.out] at ho52)); have n0_ := Aside0.mk (Kd.R_below z46_ hb); have n1_ := Aside0.mk (Kd.R_lower (Kd.R_newB ho52 (g := gb321) (o := .cells #[.int .i64 a1_0, .int .i64 a1_1, .int .i64 a1_2, .int .i64 a1_3, .string a1_4] 24 (0, 0)) z11_) (below_size z5_)); have n2_ := Aside0.mk (blk_below (g := gb321) (o := .cells #[.int .i64 a1_0, .int .i64 a1_1, .int .i64 a1_2, .int .i64 a1_3, .string a1_4] 24 (0, 0)) z11_ hb); have n3_ := Aside0.mk (below_step z5_ hb); clear HO335; clear BK321; clear HB; have HO335 := n0_; have HO338 := n1_; have BK321 := n2_; have HB := n3_; clear n0_ n1_ n2_ n3_; clear hb ho52; obtain ⟨Ao53, co53, eo53⟩ := Kd.R_slice HO338.out; subst eo53) | (go_at_call 47; (with_reducible refine (formeref10_put.calls kj25 _ _ l0 _ _ y336 a2 t339 _ ?side1 ?side2 ?side3 ?side4 A46.out).mono ?_); (case side1 => exact z3_); (case side2 => exact HC0.out); (case side3 => exact z56_); (case side4 => exact (Kd.R_reads' HO338.out).2.1); rintro e w54 ⟨v340, rfl, ho0, hb⟩; have n0_ := Aside0.mk (Kd.R_below z46_ hb); have n1_ := Aside0.mk (Kd.R_elder' z47_ (Kd.R_base ho0) hb); have n2_ := Aside0.mk (Kd.R_lower (Kd.R_newB (Kd.R_new' ho0 (Kd.R_lt z47_)) (g := gb321) (o := .cells #[.int .i64 a1_0, .int .i64 a1_1, .int .i64 a1_2, .int .i64 a1_3, .string a1_4] 24 (0, 0)) z11_) (below_size z5_)); have n3_ := Aside0.mk (blk_below (g := gb321) (o := .cells #[.int .i64 a1_0, .int .i64 a1_1, .int .i64 a1_2, .int .i64 a1_3, .string a1_4] 24 (0, 0)) z11_ hb); have n4_ := Aside0.mk (below_step z5_ hb); clear HO335; clear HO338; clear BK321; clear HB; have HO335 := n0_; have HO338 := n1_; have HO341 := n2_; have BK321 := n3_; have HB := n4_; clear n0_ n1_ n2_ n3_ n4_; (try clear hb); (try clear hb2); (try clear hk); (try clear hi); (try clear ho0)))
             repeat (go_quiet (first | (go_at_call 46; (with_reducible refine (formeref10_Stands.calls a1_2 ((rd_T24 l0 t326).f2) true _ A37.out).mono ?_); rintro e w' ⟨rfl, ⟨nd, rfl⟩⟩; (try first | exact ⟨rfl, _, World.drewN_drewN _ _ _⟩ | exact ⟨rfl, _, Eq.trans (World.drewN_drewN _ _ _) (congrArg (World.drewN _) (Nat.add_assoc _ _ _))⟩)) | (go_at_call 41; (with_reducible refine (formeref10_Way.calls kj25 _ _ l0 a1_1 t333 _ ?side1 ?side2 A41.out).mono ?_); (case side1 => exact z36_); (case side2 => exact HC0.out); rintro e w48 ⟨v334, rfl, ho0, hb⟩; have n0_ := Aside0.mk (Kd.R_lower ho0 (below_size z5_)); have n1_ := Aside0.mk (blk_below (g := gb321) (o := .cells #[.int .i64 a1_0, .int .i64 a1_1, .int .i64 a1_2, .int .i64 a1_3, .string a1_4] 24 (0, 0)) z11_ hb); have n2_ := Aside0.mk (below_step z5_ hb); clear BK321; clear HB; have HO335 := n0_; have BK321 := n1_; have HB := n2_; clear n0_ n1_ n2_; (try clear hb); (try clear hb2); (try clear hk); (try clear hi); (try clear ho0); obtain ⟨Ao49, co49, eo49⟩ := Kd.R_slice HO335.out; subst eo49; have hcz50_0 : w48.cell? ⟨gb321, 0, none⟩ = some (.int .i64 a1_0) := (blk_cell BK321.out 0).trans rfl; have hcz50_1 : w48.cell? ⟨gb321, 1, none⟩ = some (.int .i64 a1_1) := (blk_cell BK321.out 1).trans rfl; have hcz50_2 : w48.cell? ⟨gb321, 2, none⟩ = some (.int .i64 a1_2) := (blk_cell BK321.out 2).trans rfl; have hcz50_3 : w48.cell? ⟨gb321, 3, none⟩ = some (.int .i64 a1_3) := (blk_cell BK321.out 3).trans rfl; have hcz50_4 : w48.cell? ⟨gb321, 4, none⟩ = some (.string a1_4) := (blk_cell BK321.out 4).trans rfl; have hfz50_0 := blk_frozen BK321.out 0; have hfz50_1 := blk_frozen BK321.out 1; have hfz50_2 := blk_frozen BK321.out 2; have hfz50_3 := blk_frozen BK321.out 3; have hfz50_4 := blk_frozen BK321.out 4) | ((with_reducible refine gate_dst (N := 79) rfl ?_); (try (refine gate_guard (by rfl) ?_; dsimp only)); refine Kd.R_lit k24 _ 24 ?hg (N := 79) ?hd (xs := ([(⟨a1_0, a1_1, a1_2, a1_3, a1_4⟩ : S24)] : List (S24))) (inner := [.int .i64 a1_0, .int .i64 a1_1, .int .i64 a1_2, .int .i64 a1_3, .string a1_4]) (ok := fun _ => True) (okp := fun _ => True) ?hr ?hp (fun _ hk => hk) trivial (Below.refl _ _) (Nat.le_refl _) (by simp) ?_; (case hd => rfl); (case hg => rfl); (case hr => exact z13_); (case hp => exact z51_); intro v337 w51 ho52 hb hg_ hnew_; clear hg_ hnew_; (first | rw [← Ny336.out] at ho52 | (simp only [Int.reduceToNat] at ho52; rw [← Ny336.out] at ho52)); have n0_ := Aside0.mk (Kd.R_below z46_ hb); have n1_ := Aside0.mk (Kd.R_lower (Kd.R_newB ho52 (g := gb321) (o := .cells #[.int .i64 a1_0, .int .i64 a1_1, .int .i64 a1_2, .int .i64 a1_3, .string a1_4] 24 (0, 0)) z11_) (below_size z5_)); have n2_ := Aside0.mk (blk_below (g := gb321) (o := .cells #[.int .i64 a1_0, .int .i64 a1_1, .int .i64 a1_2, .int .i64 a1_3, .string a1_4] 24 (0, 0)) z11_ hb); have n3_ := Aside0.mk (below_step z5_ hb); clear HO335; clear BK321; clear HB; have HO335 := n0_; have HO338 := n1_; have BK321 := n2_; have HB := n3_; clear n0_ n1_ n2_ n3_; clear hb ho52; obtain ⟨Ao53, co53, eo53⟩ := Kd.R_slice HO338.out; subst eo53) | (go_at_call 47; (with_reducible refine (formeref10_put.calls kj25 _ _ l0 _ _ y336 a2 t339 _ ?side1 ?side2 ?side3 ?side4 A46.out).mono ?_); (case side1 => exact z3_); (case side2 => exact HC0.out); (case side3 => exact z56_); (case side4 => exact (Kd.R_reads' HO338.out).2.1); rintro e w54 ⟨v340, rfl, ho0, hb⟩; have n0_ := Aside0.mk (Kd.R_below z46_ hb); have n1_ := Aside0.mk (Kd.R_elder' z47_ (Kd.R_base ho0) hb); have n2_ := Aside0.mk (Kd.R_lower (Kd.R_newB (Kd.R_new' ho0 (Kd.R_lt z47_)) (g := gb321) (o := .cells #[.int .i64 a1_0, .int .i64 a1_1, .int .i64 a1_2, .int .i64 a1_3, .string a1_4] 24 (0, 0)) z11_) (below_size z5_)); have n3_ := Aside0.mk (blk_below (g := gb321) (o := .cells #[.int .i64 a1_0, .int .i64 a1_1, .int .i64 a1_2, .int .i64 a1_3, .string a1_4] 24 (0, 0)) z11_ hb); have n4_ := Aside0.mk (below_step z5_ hb); clear HO335; clear HO338; clear BK321; clear HB; have HO335 := n0_; have HO338 := n1_; have HO341 := n2_; have BK321 := n3_; have HB := n4_; clear n0_ n1_ n2_ n3_ n4_; (try clear hb); (try clear hb2); (try clear hk); (try clear hi); (try clear ho0))); try go_wp2_with (first | (go_at_call 46; (with_reducible refine (formeref10_Stands.calls a1_2 ((rd_T24 l0 t326).f2) true _ A37.out).mono ?_); rintro e w' ⟨rfl, ⟨nd, rfl⟩⟩; (try first | exact ⟨rfl, _, World.drewN_drewN _ _ _⟩ | exact ⟨rfl, _, Eq.trans (World.drewN_drewN _ _ _) (congrArg (World.drewN _) (Nat.add_assoc _ _ _))⟩)) | (go_at_call 41; (with_reducible refine (formeref10_Way.calls kj25 _ _ l0 a1_1 t333 _ ?side1 ?side2 A41.out).mono ?_); (case side1 => exact z36_); (case side2 => exact HC0.out); rintro e w48 ⟨v334, rfl, ho0, hb⟩; have n0_ := Aside0.mk (Kd.R_lower ho0 (below_size z5_)); have n1_ := Aside0.mk (blk_below (g := gb321) (o := .cells #[.int .i64 a1_0, .int .i64 a1_1, .int .i64 a1_2, .int .i64 a1_3, .string a1_4] 24 (0, 0)) z11_ hb); have n2_ := Aside0.mk (below_step z5_ hb); clear BK321; clear HB; have HO335 := n0_; have BK321 := n1_; have HB := n2_; clear n0_ n1_ n2_; (try clear hb); (try clear hb2); (try clear hk); (try clear hi); (try clear ho0); obtain ⟨Ao49, co49, eo49⟩ := Kd.R_slice HO335.out; subst eo49; have hcz50_0 : w48.cell? ⟨gb321, 0, none⟩ = some (.int .i64 a1_0) := (blk_cell BK321.out 0).trans rfl; have hcz50_1 : w48.cell? ⟨gb321, 1, none⟩ = some (.int .i64 a1_1) := (blk_cell BK321.out 1).trans rfl; have hcz50_2 : w48.cell? ⟨gb321, 2, none⟩ = some (.int .i64 a1_2) := (blk_cell BK321.out 2).trans rfl; have hcz50_3 : w48.cell? ⟨gb321, 3, none⟩ = some (.int .i64 a1_3) := (blk_cell BK321.out 3).trans rfl; have hcz50_4 : w48.cell? ⟨gb321, 4, none⟩ = some (.string a1_4) := (blk_cell BK321.out 4).trans rfl; have hfz50_0 := blk_frozen BK321.out 0; have hfz50_1 := blk_frozen BK321.out 1; have hfz50_2 := blk_frozen BK321.out 2; have hfz50_3 := blk_frozen BK321.out 3; have hfz50_4 := blk_frozen BK321.out 4) | ((with_reducible refine gate_dst (N := 79) rfl ?_); (try (refine gate_guard (by rfl) ?_; dsimp only)); refine Kd.R_lit k24 _ 24 ?hg (N := 79) ?hd (xs := ([(⟨a1_0, a1_1, a1_2, a1_3, a1_4⟩ : S24)] : List (S24))) (inner := [.int .i64 a1_0, .int .i64 a1_1, .int .i64 a1_2, .int .i64 a1_3, .string a1_4]) (ok := fun _ => True) (okp := fun _ => True) ?hr ?hp (fun _ hk => hk) trivial (Below.refl _ _) (Nat.le_refl _) (by simp) ?_; (case hd => rfl); (case hg => rfl); (case hr => exact z13_); (case hp => exact z51_); intro v337 w51 ho52 hb hg_ hnew_; clear hg_ hnew_; (first | rw [← Ny336.out] at ho52 | (simp only [Int.reduceToNat] at ho52; rw [← Ny336.out] at ho52)); have n0_ := Aside0.mk (Kd.R_below z46_ hb); have n1_ := Aside0.mk (Kd.R_lower (Kd.R_newB ho52 (g := gb321) (o := .cells #[.int .i64 a1_0, .int .i64 a1_1, .int .i64 a1_2, .int .i64 a1_3, .string a1_4] 24 (0, 0)) z11_) (below_size z5_)); have n2_ := Aside0.mk (blk_below (g := gb321) (o := .cells #[.int .i64 a1_0, .int .i64 a1_1, .int .i64 a1_2, .int .i64 a1_3, .string a1_4] 24 (0, 0)) z11_ hb); have n3_ := Aside0.mk (below_step z5_ hb); clear HO335; clear BK321; clear HB; have HO335 := n0_; have HO338 := n1_; have BK321 := n2_; have HB := n3_; clear n0_ n1_ n2_ n3_; clear hb ho52; obtain ⟨Ao53, co53, eo53⟩ := Kd.R_slice HO338.out; subst eo53) | (go_at_call 47; (with_reducible refine (formeref10_put.calls kj25 _ _ l0 _ _ y336 a2 t339 _ ?side1 ?side2 ?side3 ?side4 A46.out).mono ?_); (case side1 => exact z3_); (case side2 => exact HC0.out); (case side3 => exact z56_); (case side4 => exact (Kd.R_reads' HO338.out).2.1); rintro e w54 ⟨v340, rfl, ho0, hb⟩; have n0_ := Aside0.mk (Kd.R_below z46_ hb); have n1_ := Aside0.mk (Kd.R_elder' z47_ (Kd.R_base ho0) hb); have n2_ := Aside0.mk (Kd.R_lower (Kd.R_newB (Kd.R_new' ho0 (Kd.R_lt z47_)) (g := gb321) (o := .cells #[.int .i64 a1_0, .int .i64 a1_1, .int .i64 a1_2, .int .i64 a1_3, .string a1_4] 24 (0, 0)) z11_) (below_size z5_)); have n3_ := Aside0.mk (blk_below (g := gb321) (o := .cells #[.int .i64 a1_0, .int .i64 a1_1, .int .i64 a1_2, .int .i64 a1_3, .string a1_4] 24 (0, 0)) z11_ hb); have n4_ := Aside0.mk (below_step z5_ hb); clear HO335; clear HO338; clear BK321; clear HB; have HO335 := n0_; have HO338 := n1_; have HO341 := n2_; have BK321 := n3_; have HB := n4_; clear n0_ n1_ n2_ n3_ n4_; (try clear hb); (try clear hb2); (try clear hk); (try clear hi); (try clear ho0))))
             go_ret2
             exact ⟨_, by first | rfl | (simp [errW_none, errW_some] <;> rfl) | (simp [*, errW_none, errW_some] <;> rfl), by (with_reducible repeat (first | apply Kd.R_alloc | apply Kd.R_drewN | apply Kd.R_drew)); exact Kd.R_mono HO341.out (fun _ hk => trivial), by repeat (first | (with_reducible first | exact HB.out | apply below_alloc | apply pw_below_drewN | apply below_drew1 | refine below_set ?_ GE321.out) | exact HB.out)⟩
          ·replace c38 := Bool.eq_false_iff.mpr c38
           subst c38
           have H1 : (some (([] : List (S24)), 25)) = some (r1, r2) := by rw [if_neg (show ¬ (false = true) by decide)] at H; exact H
           clear H
           have H := H1
           clear H1
           simp only [Option.some.injEq, Prod.mk.injEq] at H
           obtain ⟨rfl, rfl⟩ := H
           have hcz55_0 : wc.cell? ⟨gb321, 0, none⟩ = some (.int .i64 a1_0) := (blk_cell BK321.out 0).trans rfl
           have hcz55_1 : wc.cell? ⟨gb321, 1, none⟩ = some (.int .i64 a1_1) := (blk_cell BK321.out 1).trans rfl
           have hcz55_2 : wc.cell? ⟨gb321, 2, none⟩ = some (.int .i64 a1_2) := (blk_cell BK321.out 2).trans rfl
           have hcz55_3 : wc.cell? ⟨gb321, 3, none⟩ = some (.int .i64 a1_3) := (blk_cell BK321.out 3).trans rfl
           have hcz55_4 : wc.cell? ⟨gb321, 4, none⟩ = some (.string a1_4) := (blk_cell BK321.out 4).trans rfl
           have hfz55_0 := blk_frozen BK321.out 0
           have hfz55_1 := blk_frozen BK321.out 1
           have hfz55_2 := blk_frozen BK321.out 2
           have hfz55_3 := blk_frozen BK321.out 3
           have hfz55_4 := blk_frozen BK321.out 4
           have p331 : 0 ≤ (t326 : Int) := of_decide_eq_true z4_
           have q331 : t326 < (l0.length : Int) := of_decide_eq_true z4_
           obtain ⟨ad331, e331, hx331_0, hx331_1, hx331_2, hx331_3, hx331_4⟩ := at_T24 HR0.out t326 p331 q331
           cases e331
           replace hx331_0 := hbc_ HB.out hx331_0
           replace hx331_1 := hbc_ HB.out hx331_1
           replace hx331_2 := hbc_ HB.out hx331_2
           replace hx331_3 := hbc_ HB.out hx331_3
           replace hx331_4 := hbc_ HB.out hx331_4
           replace p331 := eq_true p331
           replace q331 := eq_true q331
           go_wp2_with (first | (go_at_call 46; (with_reducible refine (formeref10_Stands.calls a1_2 ((rd_T24 l0 t326).f2) false _ A37.out).mono ?_); rintro e w' ⟨rfl, ⟨nd, rfl⟩⟩; (try first | exact ⟨rfl, _, World.drewN_drewN _ _ _⟩ | exact ⟨rfl, _, Eq.trans (World.drewN_drewN _ _ _) (congrArg (World.drewN _) (Nat.add_assoc _ _ _))⟩)))
           repeat (go_quiet (first | (go_at_call 46; (with_reducible refine (formeref10_Stands.calls a1_2 ((rd_T24 l0 t326).f2) false _ A37.out).mono ?_); rintro e w' ⟨rfl, ⟨nd, rfl⟩⟩; (try first | exact ⟨rfl, _, World.drewN_drewN _ _ _⟩ | exact ⟨rfl, _, Eq.trans (World.drewN_drewN _ _ _) (congrArg (World.drewN _) (Nat.add_assoc _ _ _))⟩))); try go_wp2_with (first | (go_at_call 46; (with_reducible refine (formeref10_Stands.calls a1_2 ((rd_T24 l0 t326).f2) false _ A37.out).mono ?_); rintro e w' ⟨rfl, ⟨nd, rfl⟩⟩; (try first | exact ⟨rfl, _, World.drewN_drewN _ _ _⟩ | exact ⟨rfl, _, Eq.trans (World.drewN_drewN _ _ _) (congrArg (World.drewN _) (Nat.add_assoc _ _ _))⟩))))
           go_ret2
           exact ⟨_, by first | rfl | (simp [errW_none, errW_some] <;> rfl) | (simp [*, errW_none, errW_some] <;> rfl), by first | exact Kd.R_nil _ _ _ _ _ | exact Kd.N_nil _ _ _ _ _ | exact Kd.V_nil _ _ _ _ _ | exact Kd.Q_nil _ _ _ _ _ | exact Kd.S_nil _ _ _ _ _, by repeat (first | (with_reducible first | exact HB.out | apply below_alloc | apply pw_below_drewN | apply below_drew1 | refine below_set ?_ GE321.out) | exact HB.out)⟩
         ·rw [if_neg c35] at H
          exact absurd H (by simp)
end Go.Proofs.Ytpafhhgoldenoaa.P
end
section
namespace Go.Proofs.Ytpafhhgoldenoaa.P
open Go.RowKit Go.Proofs.YtpafhhgoldenoaaW.PrintWords Go.Proofs.YtpafhhgoldenoaaW.PrintLast Go.Proofs.YtpafhhgoldenoaaW.PrintMore
attribute [local go_sem] max2_int min2_int max_two min_two max_three min_three max_four min_four
set_option linter.unusedVariables false
set_option linter.unusedSimpArgs false
mutual
def formeref10_Move.j0 : Nat → List (S24) → Int → Int → Int → Bool → Option ((List (S24)) × Int)
 | 0, _, _, _, _, _ => none
 | k + 1, x0, x1, x2, x3, x39 => if x39 = true then (some (([] : List (S24)), 1)) else ((formeref10_Index.f k x0 x1).bind fun t368 => ((formeref10_Index.f k x0 x2).bind fun t369 => (if t368 < 0 then (formeref10_Move.j1 k x0 x1 x2 x3 t368 t369 true) else (formeref10_Move.j1 k x0 x1 x2 x3 t368 t369 (decide (t369 < 0))))))
def formeref10_Move.j1 : Nat → List (S24) → Int → Int → Int → Int → Int → Bool → Option ((List (S24)) × Int)
 | 0, _, _, _, _, _, _, _ => none
 | k + 1, x0, x1, x2, x3, x11, x12, x51 => if x51 = true then (some (([] : List (S24)), 4)) else (if x11 = 0 then (formeref10_Move.j2 k x0 x1 x2 x3 x11 x12 true) else ((formeref10_Way.f k x0 x2).bind fun t370 => ((formeref10_Has.f k t370 x1).bind fun t373 => (if t373 = true then (formeref10_Move.j2 k x0 x1 x2 x3 x11 x12 true) else (if x3 = 0 then (formeref10_Move.j2 k x0 x1 x2 x3 x11 x12 false) else (if x3 = x1 then (formeref10_Move.j2 k x0 x1 x2 x3 x11 x12 true) else ((formeref10_Children.f k x0 x2).bind fun t374 => ((formeref10_Has.f k t374 x3).bind fun t377 => (formeref10_Move.j2 k x0 x1 x2 x3 x11 x12 (!t377))))))))))
def formeref10_Move.j2 : Nat → List (S24) → Int → Int → Int → Int → Int → Bool → Option ((List (S24)) × Int)
 | 0, _, _, _, _, _, _, _ => none
 | k + 1, x0, x1, x2, x3, x11, x12, x77 => if x77 = true then (some (([] : List (S24)), 24)) else (if 0 ≤ x11 then (if x11 < (x0.length : Int) then (if 0 ≤ x12 then (if x12 < (x0.length : Int) then ((formeref10_Stands.f ((rd_T24 x0 x11).f2) ((rd_T24 x0 x12).f2)).bind fun t380 => (if t380 = true then ((formeref10_split.f k x0 x1).bind fun bt381 => ((formeref10_Index.f k bt381.2 x1).bind fun t387 => (if 0 ≤ t387 then (if t387 < (bt381.2.length : Int) then ((formeref10_put.f k bt381.1 (bt381.2.set (t387 : Int).toNat (⟨(rd_T24 bt381.2 t387).f0, x2, (rd_T24 bt381.2 t387).f2, (rd_T24 bt381.2 t387).f3, (rd_T24 bt381.2 t387).f4⟩ : S24)) x3).bind fun t389 => ((formeref10_Valid.f k t389).bind fun t392 => (if t392 = true then (some (t389, 0)) else (some (([] : List (S24)), 2))))) else (none)) else (none)))) else (some (([] : List (S24)), 25)))) else (none)) else (none)) else (none)) else (none))
end
def formeref10_Move.f (k : Nat) (l0 : List (S24)) (a1 : Int) (a2 : Int) (a3 : Int) : Option ((List (S24)) × Int) := (formeref10_Valid.f k l0).bind fun t364 => (if t364 = true then ((formeref10_ID.f a1).bind fun t365 => (if t365 = true then ((formeref10_ID.f a2).bind fun t366 => (if t366 = true then (if a3 = 0 then (formeref10_Move.j0 k l0 a1 a2 a3 false) else ((formeref10_ID.f a3).bind fun t367 => (formeref10_Move.j0 k l0 a1 a2 a3 (!t367)))) else (formeref10_Move.j0 k l0 a1 a2 a3 true))) else (formeref10_Move.j0 k l0 a1 a2 a3 true))) else (formeref10_Move.j0 k l0 a1 a2 a3 true))
theorem formeref10_Move.mono_l : ∀ k, (∀ y0 y1 y2 y3 y4, LeO (formeref10_Move.j0 k y0 y1 y2 y3 y4) (formeref10_Move.j0 (k + 1) y0 y1 y2 y3 y4)) ∧ (∀ y0 y1 y2 y3 y4 y5 y6, LeO (formeref10_Move.j1 k y0 y1 y2 y3 y4 y5 y6) (formeref10_Move.j1 (k + 1) y0 y1 y2 y3 y4 y5 y6)) ∧ (∀ y0 y1 y2 y3 y4 y5 y6, LeO (formeref10_Move.j2 k y0 y1 y2 y3 y4 y5 y6) (formeref10_Move.j2 (k + 1) y0 y1 y2 y3 y4 y5 y6))
 | 0 => ⟨fun _ _ _ _ _ r h => by simp [formeref10_Move.j0] at h, fun _ _ _ _ _ _ _ r h => by simp [formeref10_Move.j1] at h, fun _ _ _ _ _ _ _ r h => by simp [formeref10_Move.j2] at h⟩
 | k + 1 => by
  obtain ⟨ih0, ih1, ih2⟩ := formeref10_Move.mono_l k
  refine ⟨?_, ?_, ?_⟩
  ·intro y0 y1 y2 y3 y4
   unfold formeref10_Move.j0
   repeat' first
   | (with_reducible exact ih0 _ _ _ _ _)
   | (with_reducible exact ih1 _ _ _ _ _ _ _)
   | (with_reducible exact ih2 _ _ _ _ _ _ _)
   | (with_reducible exact formeref10_Children.mono _ _ _)
   | (with_reducible exact formeref10_Has.mono _ _ _)
   | (with_reducible exact formeref10_Index.mono _ _ _)
   | (with_reducible exact formeref10_Valid.mono _ _)
   | (with_reducible exact formeref10_Way.mono _ _ _)
   | (with_reducible exact formeref10_put.mono _ _ _ _)
   | (with_reducible exact formeref10_split.mono _ _ _)
   | (with_reducible exact LeO.refl _)
   | (with_reducible exact LeO.none _)
   | (with_reducible refine LeO.ite ?_ ?_)
   | (with_reducible refine LeO.bind ?_ (fun _ => ?_))
   | exact ih0 _ _ _ _ _
   | exact ih1 _ _ _ _ _ _ _
   | exact ih2 _ _ _ _ _ _ _
   | exact formeref10_Children.mono _ _ _
   | exact formeref10_Has.mono _ _ _
   | exact formeref10_Index.mono _ _ _
   | exact formeref10_Valid.mono _ _
   | exact formeref10_Way.mono _ _ _
   | exact formeref10_put.mono _ _ _ _
   | exact formeref10_split.mono _ _ _
   | exact LeO.none _
   | refine LeO.ite ?_ ?_
   | refine LeO.bind ?_ (fun _ => ?_)
  ·intro y0 y1 y2 y3 y4 y5 y6
   unfold formeref10_Move.j1
   repeat' first
   | (with_reducible exact ih0 _ _ _ _ _)
   | (with_reducible exact ih1 _ _ _ _ _ _ _)
   | (with_reducible exact ih2 _ _ _ _ _ _ _)
   | (with_reducible exact formeref10_Children.mono _ _ _)
   | (with_reducible exact formeref10_Has.mono _ _ _)
   | (with_reducible exact formeref10_Index.mono _ _ _)
   | (with_reducible exact formeref10_Valid.mono _ _)
   | (with_reducible exact formeref10_Way.mono _ _ _)
   | (with_reducible exact formeref10_put.mono _ _ _ _)
   | (with_reducible exact formeref10_split.mono _ _ _)
   | (with_reducible exact LeO.refl _)
   | (with_reducible exact LeO.none _)
   | (with_reducible refine LeO.ite ?_ ?_)
   | (with_reducible refine LeO.bind ?_ (fun _ => ?_))
   | exact ih0 _ _ _ _ _
   | exact ih1 _ _ _ _ _ _ _
   | exact ih2 _ _ _ _ _ _ _
   | exact formeref10_Children.mono _ _ _
   | exact formeref10_Has.mono _ _ _
   | exact formeref10_Index.mono _ _ _
   | exact formeref10_Valid.mono _ _
   | exact formeref10_Way.mono _ _ _
   | exact formeref10_put.mono _ _ _ _
   | exact formeref10_split.mono _ _ _
   | exact LeO.none _
   | refine LeO.ite ?_ ?_
   | refine LeO.bind ?_ (fun _ => ?_)
  ·intro y0 y1 y2 y3 y4 y5 y6
   unfold formeref10_Move.j2
   repeat' first
   | (with_reducible exact ih0 _ _ _ _ _)
   | (with_reducible exact ih1 _ _ _ _ _ _ _)
   | (with_reducible exact ih2 _ _ _ _ _ _ _)
   | (with_reducible exact formeref10_Children.mono _ _ _)
   | (with_reducible exact formeref10_Has.mono _ _ _)
   | (with_reducible exact formeref10_Index.mono _ _ _)
   | (with_reducible exact formeref10_Valid.mono _ _)
   | (with_reducible exact formeref10_Way.mono _ _ _)
   | (with_reducible exact formeref10_put.mono _ _ _ _)
   | (with_reducible exact formeref10_split.mono _ _ _)
   | (with_reducible exact LeO.refl _)
   | (with_reducible exact LeO.none _)
   | (with_reducible refine LeO.ite ?_ ?_)
   | (with_reducible refine LeO.bind ?_ (fun _ => ?_))
   | exact ih0 _ _ _ _ _
   | exact ih1 _ _ _ _ _ _ _
   | exact ih2 _ _ _ _ _ _ _
   | exact formeref10_Children.mono _ _ _
   | exact formeref10_Has.mono _ _ _
   | exact formeref10_Index.mono _ _ _
   | exact formeref10_Valid.mono _ _
   | exact formeref10_Way.mono _ _ _
   | exact formeref10_put.mono _ _ _ _
   | exact formeref10_split.mono _ _ _
   | exact LeO.none _
   | refine LeO.ite ?_ ?_
   | refine LeO.bind ?_ (fun _ => ?_)
theorem formeref10_Move.mono : ∀ a0 a1 a2 a3 k, LeO (formeref10_Move.f k a0 a1 a2 a3) (formeref10_Move.f (k + 1) a0 a1 a2 a3) := by
 intro a0 a1 a2 a3 k
 obtain ⟨ih0, ih1, ih2⟩ := formeref10_Move.mono_l k
 unfold formeref10_Move.f
 repeat' first
   | (with_reducible exact ih0 _ _ _ _ _)
   | (with_reducible exact ih1 _ _ _ _ _ _ _)
   | (with_reducible exact ih2 _ _ _ _ _ _ _)
   | (with_reducible exact formeref10_Children.mono _ _ _)
   | (with_reducible exact formeref10_Has.mono _ _ _)
   | (with_reducible exact formeref10_Index.mono _ _ _)
   | (with_reducible exact formeref10_Valid.mono _ _)
   | (with_reducible exact formeref10_Way.mono _ _ _)
   | (with_reducible exact formeref10_put.mono _ _ _ _)
   | (with_reducible exact formeref10_split.mono _ _ _)
   | (with_reducible exact LeO.refl _)
   | (with_reducible exact LeO.none _)
   | (with_reducible refine LeO.ite ?_ ?_)
   | (with_reducible refine LeO.bind ?_ (fun _ => ?_))
   | exact ih0 _ _ _ _ _
   | exact ih1 _ _ _ _ _ _ _
   | exact ih2 _ _ _ _ _ _ _
   | exact formeref10_Children.mono _ _ _
   | exact formeref10_Has.mono _ _ _
   | exact formeref10_Index.mono _ _ _
   | exact formeref10_Valid.mono _ _
   | exact formeref10_Way.mono _ _ _
   | exact formeref10_put.mono _ _ _ _
   | exact formeref10_split.mono _ _ _
   | exact LeO.none _
   | refine LeO.ite ?_ ?_
   | refine LeO.bind ?_ (fun _ => ?_)
set_option maxHeartbeats 8000000 in
set_option maxRecDepth 100000 in
theorem formeref10_Move.calls (k : Nat) (A0 : Option Addr) (c0 : Nat) (l0 : List (S24)) (a1 : Int) (a2 : Int) (a3 : Int) (r1 : List (S24)) (r2 : Int) (w : World) (hr0 : Kd.C k24 w A0 l0.length l0) (hc0 : l0.length ≤ c0) (h : formeref10_Move.f k l0 a1 a2 a3 = some (r1, r2)) :
  Calls Try.prog 26 #[.slice A0 l0.length c0, .int .i64 a1, .int .i64 a2, .int .i64 a3] w fun e w' => ∃ v0_ : Value, e = .returned (.tuple #[v0_, .int .i64 r2]) ∧ Kd.R k24 24 w' w.heap.size (fun _ => True) v0_ r1 ∧ Below w.heap.size w w' := by
 have HR0 := Aside0.mk hr0
 have HC0 := Aside0.mk hc0
 clear hr0 hc0
 have HB := Aside0.mk (Below.refl w.heap.size w)
 have H : ((formeref10_Valid.f k l0).bind fun t364 => (if t364 = true then ((formeref10_ID.f a1).bind fun t365 => (if t365 = true then ((formeref10_ID.f a2).bind fun t366 => (if t366 = true then (if a3 = 0 then (formeref10_Move.j0 k l0 a1 a2 a3 false) else ((formeref10_ID.f a3).bind fun t367 => (formeref10_Move.j0 k l0 a1 a2 a3 (!t367)))) else (formeref10_Move.j0 k l0 a1 a2 a3 true))) else (formeref10_Move.j0 k l0 a1 a2 a3 true))) else (formeref10_Move.j0 k l0 a1 a2 a3 true))) = some (r1, r2) := h
 clear h
 replace H := Option.bind_eq_some_iff.mp H
 obtain ⟨t364, A50, H⟩ := H
 try dsimp only at H
 have A5 := Aside0.mk A50
 clear A50
 have HC6 := Aside0.mk H
 clear H
 go_enter Try.func26, Try.ntmps26
 go_upto_region 2 with (first | (go_at_call 14; (with_reducible refine (formeref10_Valid.calls k _ _ l0 t364 _ ?side1 ?side2 A5.out).mono ?_); (case side1 => exact z7_); (case side2 => exact HC0.out); rintro e w7 ⟨rfl, hb⟩; have n0_ := Aside0.mk (below_step z1_ hb); clear HB; have HB := n0_; clear n0_; (try clear hb); (try clear hb2); (try clear hk); (try clear hi)))
 repeat (go_quiet (first | (go_at_call 14; (with_reducible refine (formeref10_Valid.calls k _ _ l0 t364 _ ?side1 ?side2 A5.out).mono ?_); (case side1 => exact z7_); (case side2 => exact HC0.out); rintro e w7 ⟨rfl, hb⟩; have n0_ := Aside0.mk (below_step z1_ hb); clear HB; have HB := n0_; clear n0_; (try clear hb); (try clear hb2); (try clear hk); (try clear hi))); go_upto_region 2 with (first | (go_at_call 14; (with_reducible refine (formeref10_Valid.calls k _ _ l0 t364 _ ?side1 ?side2 A5.out).mono ?_); (case side1 => exact z7_); (case side2 => exact HC0.out); rintro e w7 ⟨rfl, hb⟩; have n0_ := Aside0.mk (below_step z1_ hb); clear HB; have HB := n0_; clear n0_; (try clear hb); (try clear hb2); (try clear hk); (try clear hi))))
 (try simp only [Act.put, List.setIfInBounds_toArray, List.set_cons_zero, List.set_cons_succ])
 go_cut [39] (fun v39 wc => ∃ (kq : Nat) (x39_5 : Bool), v39 = .bool x39_5 ∧ Aside0 (formeref10_Move.j0 kq l0 a1 a2 a3 x39_5 = some (r1, r2)) ∧ Aside0 (kq ≤ k) ∧ Aside0 (Below w.heap.size w wc))
 case first =>
  have H := HC6.out
  clear HC6
  by_cases c8 : t364 = true
  ·subst c8
   have H1 : ((formeref10_ID.f a1).bind fun t365 => (if t365 = true then ((formeref10_ID.f a2).bind fun t366 => (if t366 = true then (if a3 = 0 then (formeref10_Move.j0 k l0 a1 a2 a3 false) else ((formeref10_ID.f a3).bind fun t367 => (formeref10_Move.j0 k l0 a1 a2 a3 (!t367)))) else (formeref10_Move.j0 k l0 a1 a2 a3 true))) else (formeref10_Move.j0 k l0 a1 a2 a3 true))) = some (r1, r2) := by rw [if_pos rfl] at H; exact H
   clear H
   have H := H1
   clear H1
   replace H := Option.bind_eq_some_iff.mp H
   obtain ⟨t365, A90, H⟩ := H
   try dsimp only at H
   have A9 := Aside0.mk A90
   clear A90
   by_cases c10 : t365 = true
   ·subst c10
    have H1 : ((formeref10_ID.f a2).bind fun t366 => (if t366 = true then (if a3 = 0 then (formeref10_Move.j0 k l0 a1 a2 a3 false) else ((formeref10_ID.f a3).bind fun t367 => (formeref10_Move.j0 k l0 a1 a2 a3 (!t367)))) else (formeref10_Move.j0 k l0 a1 a2 a3 true))) = some (r1, r2) := by rw [if_pos rfl] at H; exact H
    clear H
    have H := H1
    clear H1
    replace H := Option.bind_eq_some_iff.mp H
    obtain ⟨t366, A110, H⟩ := H
    try dsimp only at H
    have A11 := Aside0.mk A110
    clear A110
    by_cases c12 : t366 = true
    ·subst c12
     have H1 : (if a3 = 0 then (formeref10_Move.j0 k l0 a1 a2 a3 false) else ((formeref10_ID.f a3).bind fun t367 => (formeref10_Move.j0 k l0 a1 a2 a3 (!t367)))) = some (r1, r2) := by rw [if_pos rfl] at H; exact H
     clear H
     have H := H1
     clear H1
     by_cases c13 : a3 = 0
     ·rw [if_pos c13] at H
      have c13b0 : (a3 == 0) = true := beq_iff_eq.mpr c13
      have c13b1 : (a3 != 0) = false := bne_eq_false_iff_eq.mpr c13
      clear c13
      (first | rw [c13b0] | (simp only [i64_w, i32_w]; rw [c13b0]) | skip)
      have H' := Aside0.mk H
      clear H
      go_wp2_with (first | (go_at_call 33; (with_reducible refine (formeref10_ID.calls a1 true _ A9.out).mono ?_); rintro e w' ⟨rfl, ⟨nd, rfl⟩⟩; (try first | exact ⟨rfl, _, World.drewN_drewN _ _ _⟩ | exact ⟨rfl, _, Eq.trans (World.drewN_drewN _ _ _) (congrArg (World.drewN _) (Nat.add_assoc _ _ _))⟩)) | (go_at_call 33; (with_reducible refine (formeref10_ID.calls a2 true _ A11.out).mono ?_); rintro e w' ⟨rfl, ⟨nd, rfl⟩⟩; (try first | exact ⟨rfl, _, World.drewN_drewN _ _ _⟩ | exact ⟨rfl, _, Eq.trans (World.drewN_drewN _ _ _) (congrArg (World.drewN _) (Nat.add_assoc _ _ _))⟩)))
      repeat (go_quiet (first | (go_at_call 33; (with_reducible refine (formeref10_ID.calls a1 true _ A9.out).mono ?_); rintro e w' ⟨rfl, ⟨nd, rfl⟩⟩; (try first | exact ⟨rfl, _, World.drewN_drewN _ _ _⟩ | exact ⟨rfl, _, Eq.trans (World.drewN_drewN _ _ _) (congrArg (World.drewN _) (Nat.add_assoc _ _ _))⟩)) | (go_at_call 33; (with_reducible refine (formeref10_ID.calls a2 true _ A11.out).mono ?_); rintro e w' ⟨rfl, ⟨nd, rfl⟩⟩; (try first | exact ⟨rfl, _, World.drewN_drewN _ _ _⟩ | exact ⟨rfl, _, Eq.trans (World.drewN_drewN _ _ _) (congrArg (World.drewN _) (Nat.add_assoc _ _ _))⟩))); try go_wp2_with (first | (go_at_call 33; (with_reducible refine (formeref10_ID.calls a1 true _ A9.out).mono ?_); rintro e w' ⟨rfl, ⟨nd, rfl⟩⟩; (try first | exact ⟨rfl, _, World.drewN_drewN _ _ _⟩ | exact ⟨rfl, _, Eq.trans (World.drewN_drewN _ _ _) (congrArg (World.drewN _) (Nat.add_assoc _ _ _))⟩)) | (go_at_call 33; (with_reducible refine (formeref10_ID.calls a2 true _ A11.out).mono ?_); rintro e w' ⟨rfl, ⟨nd, rfl⟩⟩; (try first | exact ⟨rfl, _, World.drewN_drewN _ _ _⟩ | exact ⟨rfl, _, Eq.trans (World.drewN_drewN _ _ _) (congrArg (World.drewN _) (Nat.add_assoc _ _ _))⟩))))
      go_meet
      case rel => exact ⟨_, (false), z9_, H', ⟨by first | omega | exact Nat.le_refl _⟩, ⟨by repeat (first | (with_reducible first | exact HB.out | apply below_alloc | apply pw_below_drewN | apply below_drew1) | exact HB.out)⟩⟩
     ·rw [if_neg c13] at H
      have c13b0 : (a3 == 0) = false := beq_eq_false_iff_ne.mpr c13
      have c13b1 : (a3 != 0) = true := bne_iff_ne.mpr c13
      (first | rw [c13b0] | (simp only [i64_w, i32_w]; rw [c13b0]) | skip)
      replace H := Option.bind_eq_some_iff.mp H
      obtain ⟨t367, A140, H⟩ := H
      try dsimp only at H
      have A14 := Aside0.mk A140
      clear A140
      have H' := Aside0.mk H
      clear H
      go_wp2_with (first | (go_at_call 33; (with_reducible refine (formeref10_ID.calls a1 true _ A9.out).mono ?_); rintro e w' ⟨rfl, ⟨nd, rfl⟩⟩; (try first | exact ⟨rfl, _, World.drewN_drewN _ _ _⟩ | exact ⟨rfl, _, Eq.trans (World.drewN_drewN _ _ _) (congrArg (World.drewN _) (Nat.add_assoc _ _ _))⟩)) | (go_at_call 33; (with_reducible refine (formeref10_ID.calls a2 true _ A11.out).mono ?_); rintro e w' ⟨rfl, ⟨nd, rfl⟩⟩; (try first | exact ⟨rfl, _, World.drewN_drewN _ _ _⟩ | exact ⟨rfl, _, Eq.trans (World.drewN_drewN _ _ _) (congrArg (World.drewN _) (Nat.add_assoc _ _ _))⟩)) | (go_at_call 33; (with_reducible refine (formeref10_ID.calls a3 t367 _ A14.out).mono ?_); rintro e w' ⟨rfl, ⟨nd, rfl⟩⟩; (try first | exact ⟨rfl, _, World.drewN_drewN _ _ _⟩ | exact ⟨rfl, _, Eq.trans (World.drewN_drewN _ _ _) (congrArg (World.drewN _) (Nat.add_assoc _ _ _))⟩)))
      repeat (go_quiet (first | (go_at_call 33; (with_reducible refine (formeref10_ID.calls a1 true _ A9.out).mono ?_); rintro e w' ⟨rfl, ⟨nd, rfl⟩⟩; (try first | exact ⟨rfl, _, World.drewN_drewN _ _ _⟩ | exact ⟨rfl, _, Eq.trans (World.drewN_drewN _ _ _) (congrArg (World.drewN _) (Nat.add_assoc _ _ _))⟩)) | (go_at_call 33; (with_reducible refine (formeref10_ID.calls a2 true _ A11.out).mono ?_); rintro e w' ⟨rfl, ⟨nd, rfl⟩⟩; (try first | exact ⟨rfl, _, World.drewN_drewN _ _ _⟩ | exact ⟨rfl, _, Eq.trans (World.drewN_drewN _ _ _) (congrArg (World.drewN _) (Nat.add_assoc _ _ _))⟩)) | (go_at_call 33; (with_reducible refine (formeref10_ID.calls a3 t367 _ A14.out).mono ?_); rintro e w' ⟨rfl, ⟨nd, rfl⟩⟩; (try first | exact ⟨rfl, _, World.drewN_drewN _ _ _⟩ | exact ⟨rfl, _, Eq.trans (World.drewN_drewN _ _ _) (congrArg (World.drewN _) (Nat.add_assoc _ _ _))⟩))); try go_wp2_with (first | (go_at_call 33; (with_reducible refine (formeref10_ID.calls a1 true _ A9.out).mono ?_); rintro e w' ⟨rfl, ⟨nd, rfl⟩⟩; (try first | exact ⟨rfl, _, World.drewN_drewN _ _ _⟩ | exact ⟨rfl, _, Eq.trans (World.drewN_drewN _ _ _) (congrArg (World.drewN _) (Nat.add_assoc _ _ _))⟩)) | (go_at_call 33; (with_reducible refine (formeref10_ID.calls a2 true _ A11.out).mono ?_); rintro e w' ⟨rfl, ⟨nd, rfl⟩⟩; (try first | exact ⟨rfl, _, World.drewN_drewN _ _ _⟩ | exact ⟨rfl, _, Eq.trans (World.drewN_drewN _ _ _) (congrArg (World.drewN _) (Nat.add_assoc _ _ _))⟩)) | (go_at_call 33; (with_reducible refine (formeref10_ID.calls a3 t367 _ A14.out).mono ?_); rintro e w' ⟨rfl, ⟨nd, rfl⟩⟩; (try first | exact ⟨rfl, _, World.drewN_drewN _ _ _⟩ | exact ⟨rfl, _, Eq.trans (World.drewN_drewN _ _ _) (congrArg (World.drewN _) (Nat.add_assoc _ _ _))⟩))))
      go_meet
      case rel => exact ⟨_, (!t367), z9_, H', ⟨by first | omega | exact Nat.le_refl _⟩, ⟨by repeat (first | (with_reducible first | exact HB.out | apply below_alloc | apply pw_below_drewN | apply below_drew1) | exact HB.out)⟩⟩
    ·replace c12 := Bool.eq_false_iff.mpr c12
     subst c12
     have H1 : (formeref10_Move.j0 k l0 a1 a2 a3 true) = some (r1, r2) := by rw [if_neg (show ¬ (false = true) by decide)] at H; exact H
     clear H
     have H := H1
     clear H1
     have H' := Aside0.mk H
     clear H
     go_wp2_with (first | (go_at_call 33; (with_reducible refine (formeref10_ID.calls a1 true _ A9.out).mono ?_); rintro e w' ⟨rfl, ⟨nd, rfl⟩⟩; (try first | exact ⟨rfl, _, World.drewN_drewN _ _ _⟩ | exact ⟨rfl, _, Eq.trans (World.drewN_drewN _ _ _) (congrArg (World.drewN _) (Nat.add_assoc _ _ _))⟩)) | (go_at_call 33; (with_reducible refine (formeref10_ID.calls a2 false _ A11.out).mono ?_); rintro e w' ⟨rfl, ⟨nd, rfl⟩⟩; (try first | exact ⟨rfl, _, World.drewN_drewN _ _ _⟩ | exact ⟨rfl, _, Eq.trans (World.drewN_drewN _ _ _) (congrArg (World.drewN _) (Nat.add_assoc _ _ _))⟩)))
     repeat (go_quiet (first | (go_at_call 33; (with_reducible refine (formeref10_ID.calls a1 true _ A9.out).mono ?_); rintro e w' ⟨rfl, ⟨nd, rfl⟩⟩; (try first | exact ⟨rfl, _, World.drewN_drewN _ _ _⟩ | exact ⟨rfl, _, Eq.trans (World.drewN_drewN _ _ _) (congrArg (World.drewN _) (Nat.add_assoc _ _ _))⟩)) | (go_at_call 33; (with_reducible refine (formeref10_ID.calls a2 false _ A11.out).mono ?_); rintro e w' ⟨rfl, ⟨nd, rfl⟩⟩; (try first | exact ⟨rfl, _, World.drewN_drewN _ _ _⟩ | exact ⟨rfl, _, Eq.trans (World.drewN_drewN _ _ _) (congrArg (World.drewN _) (Nat.add_assoc _ _ _))⟩))); try go_wp2_with (first | (go_at_call 33; (with_reducible refine (formeref10_ID.calls a1 true _ A9.out).mono ?_); rintro e w' ⟨rfl, ⟨nd, rfl⟩⟩; (try first | exact ⟨rfl, _, World.drewN_drewN _ _ _⟩ | exact ⟨rfl, _, Eq.trans (World.drewN_drewN _ _ _) (congrArg (World.drewN _) (Nat.add_assoc _ _ _))⟩)) | (go_at_call 33; (with_reducible refine (formeref10_ID.calls a2 false _ A11.out).mono ?_); rintro e w' ⟨rfl, ⟨nd, rfl⟩⟩; (try first | exact ⟨rfl, _, World.drewN_drewN _ _ _⟩ | exact ⟨rfl, _, Eq.trans (World.drewN_drewN _ _ _) (congrArg (World.drewN _) (Nat.add_assoc _ _ _))⟩))))
     go_meet
     case rel => exact ⟨_, (true), z9_, H', ⟨by first | omega | exact Nat.le_refl _⟩, ⟨by repeat (first | (with_reducible first | exact HB.out | apply below_alloc | apply pw_below_drewN | apply below_drew1) | exact HB.out)⟩⟩
   ·replace c10 := Bool.eq_false_iff.mpr c10
    subst c10
    have H1 : (formeref10_Move.j0 k l0 a1 a2 a3 true) = some (r1, r2) := by rw [if_neg (show ¬ (false = true) by decide)] at H; exact H
    clear H
    have H := H1
    clear H1
    have H' := Aside0.mk H
    clear H
    go_wp2_with (first | (go_at_call 33; (with_reducible refine (formeref10_ID.calls a1 false _ A9.out).mono ?_); rintro e w' ⟨rfl, ⟨nd, rfl⟩⟩; (try first | exact ⟨rfl, _, World.drewN_drewN _ _ _⟩ | exact ⟨rfl, _, Eq.trans (World.drewN_drewN _ _ _) (congrArg (World.drewN _) (Nat.add_assoc _ _ _))⟩)))
    repeat (go_quiet (first | (go_at_call 33; (with_reducible refine (formeref10_ID.calls a1 false _ A9.out).mono ?_); rintro e w' ⟨rfl, ⟨nd, rfl⟩⟩; (try first | exact ⟨rfl, _, World.drewN_drewN _ _ _⟩ | exact ⟨rfl, _, Eq.trans (World.drewN_drewN _ _ _) (congrArg (World.drewN _) (Nat.add_assoc _ _ _))⟩))); try go_wp2_with (first | (go_at_call 33; (with_reducible refine (formeref10_ID.calls a1 false _ A9.out).mono ?_); rintro e w' ⟨rfl, ⟨nd, rfl⟩⟩; (try first | exact ⟨rfl, _, World.drewN_drewN _ _ _⟩ | exact ⟨rfl, _, Eq.trans (World.drewN_drewN _ _ _) (congrArg (World.drewN _) (Nat.add_assoc _ _ _))⟩))))
    go_meet
    case rel => exact ⟨_, (true), z9_, H', ⟨by first | omega | exact Nat.le_refl _⟩, ⟨by repeat (first | (with_reducible first | exact HB.out | apply below_alloc | apply pw_below_drewN | apply below_drew1) | exact HB.out)⟩⟩
  ·replace c8 := Bool.eq_false_iff.mpr c8
   subst c8
   have H1 : (formeref10_Move.j0 k l0 a1 a2 a3 true) = some (r1, r2) := by rw [if_neg (show ¬ (false = true) by decide)] at H; exact H
   clear H
   have H := H1
   clear H1
   have H' := Aside0.mk H
   clear H
   go_wp2
   repeat (go_quiet (fail); try go_wp2)
   go_meet
   case rel => exact ⟨_, (true), z9_, H', ⟨by first | omega | exact Nat.le_refl _⟩, ⟨by repeat (first | (with_reducible first | exact HB.out | apply below_alloc | apply pw_below_drewN | apply below_drew1) | exact HB.out)⟩⟩
 case rest =>
  clear HC6
  try clear c1
  try clear c2
  try clear p2
  try clear c8
  try clear c10
  try clear c12
  try clear c13
  try clear c13b0
  try clear c13b1
  obtain ⟨kq, x39_5, rfl, HA, HJ5, HB⟩ := hcut
  cases kq with
  | zero => exact absurd HA.out (by simp [formeref10_Move.j0])
  | succ kj5 =>
   have H := HA.out
   clear HA
   simp only [formeref10_Move.j0] at H
   by_cases c15 : x39_5 = true
   ·subst c15
    have H1 : (some (([] : List (S24)), 1)) = some (r1, r2) := by rw [if_pos rfl] at H; exact H
    clear H
    have H := H1
    clear H1
    simp only [Option.some.injEq, Prod.mk.injEq] at H
    obtain ⟨rfl, rfl⟩ := H
    go_wp2
    repeat (go_quiet (fail); try go_wp2)
    go_ret2
    exact ⟨_, by first | rfl | (simp [errW_none, errW_some] <;> rfl) | (simp [*, errW_none, errW_some] <;> rfl), by first | exact Kd.R_nil _ _ _ _ _ | exact Kd.N_nil _ _ _ _ _ | exact Kd.V_nil _ _ _ _ _ | exact Kd.Q_nil _ _ _ _ _ | exact Kd.S_nil _ _ _ _ _, by repeat (first | (with_reducible first | exact HB.out | apply below_alloc | apply pw_below_drewN | apply below_drew1) | exact HB.out)⟩
   ·replace c15 := Bool.eq_false_iff.mpr c15
    subst c15
    have H1 : ((formeref10_Index.f kj5 l0 a1).bind fun t368 => ((formeref10_Index.f kj5 l0 a2).bind fun t369 => (if t368 < 0 then (formeref10_Move.j1 kj5 l0 a1 a2 a3 t368 t369 true) else (formeref10_Move.j1 kj5 l0 a1 a2 a3 t368 t369 (decide (t369 < 0)))))) = some (r1, r2) := by rw [if_neg (show ¬ (false = true) by decide)] at H; exact H
    clear H
    have H := H1
    clear H1
    replace H := Option.bind_eq_some_iff.mp H
    obtain ⟨t368, A160, H⟩ := H
    try dsimp only at H
    have A16 := Aside0.mk A160
    clear A160
    replace H := Option.bind_eq_some_iff.mp H
    obtain ⟨t369, A170, H⟩ := H
    try dsimp only at H
    have A17 := Aside0.mk A170
    clear A170
    have HC18 := Aside0.mk H
    clear H
    go_upto_region 6 with (first | (go_at_call 34; (with_reducible refine (formeref10_Index.calls kj5 _ _ l0 a1 t368 _ ?side1 ?side2 A16.out).mono ?_); (case side1 => exact z3_); (case side2 => exact HC0.out); rintro e w' ⟨rfl, ⟨nd, rfl⟩⟩; (try first | exact ⟨rfl, _, World.drewN_drewN _ _ _⟩ | exact ⟨rfl, _, Eq.trans (World.drewN_drewN _ _ _) (congrArg (World.drewN _) (Nat.add_assoc _ _ _))⟩)) | (go_at_call 34; (with_reducible refine (formeref10_Index.calls kj5 _ _ l0 a2 t369 _ ?side1 ?side2 A17.out).mono ?_); (case side1 => exact z35_); (case side2 => exact HC0.out); rintro e w' ⟨rfl, ⟨nd, rfl⟩⟩; (try first | exact ⟨rfl, _, World.drewN_drewN _ _ _⟩ | exact ⟨rfl, _, Eq.trans (World.drewN_drewN _ _ _) (congrArg (World.drewN _) (Nat.add_assoc _ _ _))⟩)))
    repeat (go_quiet (first | (go_at_call 34; (with_reducible refine (formeref10_Index.calls kj5 _ _ l0 a1 t368 _ ?side1 ?side2 A16.out).mono ?_); (case side1 => exact z3_); (case side2 => exact HC0.out); rintro e w' ⟨rfl, ⟨nd, rfl⟩⟩; (try first | exact ⟨rfl, _, World.drewN_drewN _ _ _⟩ | exact ⟨rfl, _, Eq.trans (World.drewN_drewN _ _ _) (congrArg (World.drewN _) (Nat.add_assoc _ _ _))⟩)) | (go_at_call 34; (with_reducible refine (formeref10_Index.calls kj5 _ _ l0 a2 t369 _ ?side1 ?side2 A17.out).mono ?_); (case side1 => exact z35_); (case side2 => exact HC0.out); rintro e w' ⟨rfl, ⟨nd, rfl⟩⟩; (try first | exact ⟨rfl, _, World.drewN_drewN _ _ _⟩ | exact ⟨rfl, _, Eq.trans (World.drewN_drewN _ _ _) (congrArg (World.drewN _) (Nat.add_assoc _ _ _))⟩))); go_upto_region 6 with (first | (go_at_call 34; (with_reducible refine (formeref10_Index.calls kj5 _ _ l0 a1 t368 _ ?side1 ?side2 A16.out).mono ?_); (case side1 => exact z3_); (case side2 => exact HC0.out); rintro e w' ⟨rfl, ⟨nd, rfl⟩⟩; (try first | exact ⟨rfl, _, World.drewN_drewN _ _ _⟩ | exact ⟨rfl, _, Eq.trans (World.drewN_drewN _ _ _) (congrArg (World.drewN _) (Nat.add_assoc _ _ _))⟩)) | (go_at_call 34; (with_reducible refine (formeref10_Index.calls kj5 _ _ l0 a2 t369 _ ?side1 ?side2 A17.out).mono ?_); (case side1 => exact z35_); (case side2 => exact HC0.out); rintro e w' ⟨rfl, ⟨nd, rfl⟩⟩; (try first | exact ⟨rfl, _, World.drewN_drewN _ _ _⟩ | exact ⟨rfl, _, Eq.trans (World.drewN_drewN _ _ _) (congrArg (World.drewN _) (Nat.add_assoc _ _ _))⟩))))
    (try simp only [Act.put, List.setIfInBounds_toArray, List.set_cons_zero, List.set_cons_succ])
    go_cut [51] (fun v51 wc => ∃ (kq : Nat) (x51_17 : Bool), v51 = .bool x51_17 ∧ Aside0 (formeref10_Move.j1 kq l0 a1 a2 a3 t368 t369 x51_17 = some (r1, r2)) ∧ Aside0 (kq ≤ kj5) ∧ Aside0 (Below w.heap.size w wc))
    case first =>
     have H := HC18.out
     clear HC18
     by_cases c19 : t368 < 0
     ·rw [if_pos c19] at H
      have c19b0 : decide (t368 < 0) = true := decide_eq_true c19
      clear c19
      (first | rw [c19b0] | (simp only [i64_w, i32_w]; rw [c19b0]) | skip)
      have H' := Aside0.mk H
      clear H
      go_wp2
      repeat (go_quiet (fail); try go_wp2)
      go_meet
      case rel => exact ⟨_, (true), z9_, H', ⟨by have := HJ5.out; first | omega | exact Nat.le_refl _⟩, ⟨by repeat (first | (with_reducible first | exact HB.out | apply below_alloc | apply pw_below_drewN | apply below_drew1) | exact HB.out)⟩⟩
     ·rw [if_neg c19] at H
      have c19b0 : decide (t368 < 0) = false := decide_eq_false c19
      clear c19
      (first | rw [c19b0] | (simp only [i64_w, i32_w]; rw [c19b0]) | skip)
      have H' := Aside0.mk H
      clear H
      go_wp2
      repeat (go_quiet (fail); try go_wp2)
      go_meet
      case rel => exact ⟨_, (decide (t369 < 0)), z9_, H', ⟨by have := HJ5.out; first | omega | exact Nat.le_refl _⟩, ⟨by repeat (first | (with_reducible first | exact HB.out | apply below_alloc | apply pw_below_drewN | apply below_drew1) | exact HB.out)⟩⟩
    case rest =>
     clear HC18
     try clear c1
     try clear c2
     try clear p2
     try clear c8
     try clear c10
     try clear c12
     try clear c13
     try clear c13b0
     try clear c13b1
     try clear c15
     try clear c19
     try clear c19b0
     try clear p2
     obtain ⟨kq, x51_17, rfl, HA, HJ17, HB⟩ := hcut
     cases kq with
     | zero => exact absurd HA.out (by simp [formeref10_Move.j1])
     | succ kj17 =>
      have H := HA.out
      clear HA
      simp only [formeref10_Move.j1] at H
      by_cases c20 : x51_17 = true
      ·subst c20
       have H1 : (some (([] : List (S24)), 4)) = some (r1, r2) := by rw [if_pos rfl] at H; exact H
       clear H
       have H := H1
       clear H1
       simp only [Option.some.injEq, Prod.mk.injEq] at H
       obtain ⟨rfl, rfl⟩ := H
       go_wp2
       repeat (go_quiet (fail); try go_wp2)
       go_ret2
       exact ⟨_, by first | rfl | (simp [errW_none, errW_some] <;> rfl) | (simp [*, errW_none, errW_some] <;> rfl), by first | exact Kd.R_nil _ _ _ _ _ | exact Kd.N_nil _ _ _ _ _ | exact Kd.V_nil _ _ _ _ _ | exact Kd.Q_nil _ _ _ _ _ | exact Kd.S_nil _ _ _ _ _, by repeat (first | (with_reducible first | exact HB.out | apply below_alloc | apply pw_below_drewN | apply below_drew1) | exact HB.out)⟩
      ·replace c20 := Bool.eq_false_iff.mpr c20
       subst c20
       have H1 : (if t368 = 0 then (formeref10_Move.j2 kj17 l0 a1 a2 a3 t368 t369 true) else ((formeref10_Way.f kj17 l0 a2).bind fun t370 => ((formeref10_Has.f kj17 t370 a1).bind fun t373 => (if t373 = true then (formeref10_Move.j2 kj17 l0 a1 a2 a3 t368 t369 true) else (if a3 = 0 then (formeref10_Move.j2 kj17 l0 a1 a2 a3 t368 t369 false) else (if a3 = a1 then (formeref10_Move.j2 kj17 l0 a1 a2 a3 t368 t369 true) else ((formeref10_Children.f kj17 l0 a2).bind fun t374 => ((formeref10_Has.f kj17 t374 a3).bind fun t377 => (formeref10_Move.j2 kj17 l0 a1 a2 a3 t368 t369 (!t377)))))))))) = some (r1, r2) := by rw [if_neg (show ¬ (false = true) by decide)] at H; exact H
       clear H
       have H := H1
       clear H1
       have HC21 := Aside0.mk H
       clear H
       go_upto_region 8 with (fail)
       repeat (go_quiet (fail); go_upto_region 8 with (fail))
       go_cut [77] (fun v77 wc => ∃ (kq : Nat) (x77_20 : Bool), v77 = .bool x77_20 ∧ Aside0 (formeref10_Move.j2 kq l0 a1 a2 a3 t368 t369 x77_20 = some (r1, r2)) ∧ Aside0 (kq ≤ kj17) ∧ Aside0 (Below w.heap.size w wc))
       case first =>
        have H := HC21.out
        clear HC21
        by_cases c22 : t368 = 0
        ·rw [if_pos c22] at H
         have c22b0 : (t368 == 0) = true := beq_iff_eq.mpr c22
         have c22b1 : (t368 != 0) = false := bne_eq_false_iff_eq.mpr c22
         clear c22
         (first | rw [c22b0] | (simp only [i64_w, i32_w]; rw [c22b0]) | skip)
         have H' := Aside0.mk H
         clear H
         go_wp2
         repeat (go_quiet (fail); try go_wp2)
         go_meet
         case rel => exact ⟨_, (true), z9_, H', ⟨by have := HJ5.out; have := HJ17.out; first | omega | exact Nat.le_refl _⟩, ⟨by repeat (first | (with_reducible first | exact HB.out | apply below_alloc | apply pw_below_drewN | apply below_drew1) | exact HB.out)⟩⟩
        ·rw [if_neg c22] at H
         have c22b0 : (t368 == 0) = false := beq_eq_false_iff_ne.mpr c22
         have c22b1 : (t368 != 0) = true := bne_iff_ne.mpr c22
         (first | rw [c22b0] | (simp only [i64_w, i32_w]; rw [c22b0]) | skip)
         replace H := Option.bind_eq_some_iff.mp H
         obtain ⟨t370, A230, H⟩ := H
         try dsimp only at H
         have A23 := Aside0.mk A230
         clear A230
         replace H := Option.bind_eq_some_iff.mp H
         obtain ⟨t373, A240, H⟩ := H
         try dsimp only at H
         have A24 := Aside0.mk A240
         clear A240
         by_cases c25 : t373 = true
         ·subst c25
          have H1 : (formeref10_Move.j2 kj17 l0 a1 a2 a3 t368 t369 true) = some (r1, r2) := by rw [if_pos rfl] at H; exact H
          clear H
          have H := H1
          clear H1
          have H' := Aside0.mk H
          clear H
          go_wp2_with (first | (go_at_call 41; (with_reducible refine (formeref10_Way.calls kj17 _ _ l0 a2 t370 _ ?side1 ?side2 A23.out).mono ?_); (case side1 => exact z3_); (case side2 => exact HC0.out); rintro e w26 ⟨v371, rfl, ho0, hb⟩; have n0_ := Aside0.mk (Kd.R_lower ho0 (below_size z1_)); have n1_ := Aside0.mk (below_step z1_ hb); clear HB; have HO372 := n0_; have HB := n1_; clear n0_ n1_; (try clear hb); (try clear hb2); (try clear hk); (try clear hi); (try clear ho0); obtain ⟨Ao27, co27, eo27⟩ := Kd.R_slice HO372.out; subst eo27) | (go_at_call 29; (with_reducible refine (formeref10_Has.calls kj17 _ _ t370 a1 true _ ?side1 ?side2 A24.out).mono ?_); (case side1 => exact z16_); (case side2 => exact z60_); rintro e w' ⟨rfl, ⟨nd, rfl⟩⟩; (try first | exact ⟨rfl, _, World.drewN_drewN _ _ _⟩ | exact ⟨rfl, _, Eq.trans (World.drewN_drewN _ _ _) (congrArg (World.drewN _) (Nat.add_assoc _ _ _))⟩)))
          repeat (go_quiet (first | (go_at_call 41; (with_reducible refine (formeref10_Way.calls kj17 _ _ l0 a2 t370 _ ?side1 ?side2 A23.out).mono ?_); (case side1 => exact z3_); (case side2 => exact HC0.out); rintro e w26 ⟨v371, rfl, ho0, hb⟩; have n0_ := Aside0.mk (Kd.R_lower ho0 (below_size z1_)); have n1_ := Aside0.mk (below_step z1_ hb); clear HB; have HO372 := n0_; have HB := n1_; clear n0_ n1_; (try clear hb); (try clear hb2); (try clear hk); (try clear hi); (try clear ho0); obtain ⟨Ao27, co27, eo27⟩ := Kd.R_slice HO372.out; subst eo27) | (go_at_call 29; (with_reducible refine (formeref10_Has.calls kj17 _ _ t370 a1 true _ ?side1 ?side2 A24.out).mono ?_); (case side1 => exact z16_); (case side2 => exact z60_); rintro e w' ⟨rfl, ⟨nd, rfl⟩⟩; (try first | exact ⟨rfl, _, World.drewN_drewN _ _ _⟩ | exact ⟨rfl, _, Eq.trans (World.drewN_drewN _ _ _) (congrArg (World.drewN _) (Nat.add_assoc _ _ _))⟩))); try go_wp2_with (first | (go_at_call 41; (with_reducible refine (formeref10_Way.calls kj17 _ _ l0 a2 t370 _ ?side1 ?side2 A23.out).mono ?_); (case side1 => exact z3_); (case side2 => exact HC0.out); rintro e w26 ⟨v371, rfl, ho0, hb⟩; have n0_ := Aside0.mk (Kd.R_lower ho0 (below_size z1_)); have n1_ := Aside0.mk (below_step z1_ hb); clear HB; have HO372 := n0_; have HB := n1_; clear n0_ n1_; (try clear hb); (try clear hb2); (try clear hk); (try clear hi); (try clear ho0); obtain ⟨Ao27, co27, eo27⟩ := Kd.R_slice HO372.out; subst eo27) | (go_at_call 29; (with_reducible refine (formeref10_Has.calls kj17 _ _ t370 a1 true _ ?side1 ?side2 A24.out).mono ?_); (case side1 => exact z16_); (case side2 => exact z60_); rintro e w' ⟨rfl, ⟨nd, rfl⟩⟩; (try first | exact ⟨rfl, _, World.drewN_drewN _ _ _⟩ | exact ⟨rfl, _, Eq.trans (World.drewN_drewN _ _ _) (congrArg (World.drewN _) (Nat.add_assoc _ _ _))⟩))))
          go_meet
          case rel => exact ⟨_, (true), z9_, H', ⟨by have := HJ5.out; have := HJ17.out; first | omega | exact Nat.le_refl _⟩, ⟨by repeat (first | (with_reducible first | exact HB.out | apply below_alloc | apply pw_below_drewN | apply below_drew1) | exact HB.out)⟩⟩
         ·replace c25 := Bool.eq_false_iff.mpr c25
          subst c25
          have H1 : (if a3 = 0 then (formeref10_Move.j2 kj17 l0 a1 a2 a3 t368 t369 false) else (if a3 = a1 then (formeref10_Move.j2 kj17 l0 a1 a2 a3 t368 t369 true) else ((formeref10_Children.f kj17 l0 a2).bind fun t374 => ((formeref10_Has.f kj17 t374 a3).bind fun t377 => (formeref10_Move.j2 kj17 l0 a1 a2 a3 t368 t369 (!t377)))))) = some (r1, r2) := by rw [if_neg (show ¬ (false = true) by decide)] at H; exact H
          clear H
          have H := H1
          clear H1
          by_cases c28 : a3 = 0
          ·rw [if_pos c28] at H
           have c28b0 : (a3 == 0) = true := beq_iff_eq.mpr c28
           have c28b1 : (a3 != 0) = false := bne_eq_false_iff_eq.mpr c28
           clear c28
           have H' := Aside0.mk H
           clear H
           go_wp2_with (first | (go_at_call 41; (with_reducible refine (formeref10_Way.calls kj17 _ _ l0 a2 t370 _ ?side1 ?side2 A23.out).mono ?_); (case side1 => exact z3_); (case side2 => exact HC0.out); rintro e w29 ⟨v371, rfl, ho0, hb⟩; have n0_ := Aside0.mk (Kd.R_lower ho0 (below_size z1_)); have n1_ := Aside0.mk (below_step z1_ hb); clear HB; have HO372 := n0_; have HB := n1_; clear n0_ n1_; (try clear hb); (try clear hb2); (try clear hk); (try clear hi); (try clear ho0); obtain ⟨Ao30, co30, eo30⟩ := Kd.R_slice HO372.out; subst eo30) | (go_at_call 29; (with_reducible refine (formeref10_Has.calls kj17 _ _ t370 a1 false _ ?side1 ?side2 A24.out).mono ?_); (case side1 => exact z16_); (case side2 => exact z60_); rintro e w' ⟨rfl, ⟨nd, rfl⟩⟩; (try first | exact ⟨rfl, _, World.drewN_drewN _ _ _⟩ | exact ⟨rfl, _, Eq.trans (World.drewN_drewN _ _ _) (congrArg (World.drewN _) (Nat.add_assoc _ _ _))⟩)))
           repeat (go_quiet (first | (go_at_call 41; (with_reducible refine (formeref10_Way.calls kj17 _ _ l0 a2 t370 _ ?side1 ?side2 A23.out).mono ?_); (case side1 => exact z3_); (case side2 => exact HC0.out); rintro e w29 ⟨v371, rfl, ho0, hb⟩; have n0_ := Aside0.mk (Kd.R_lower ho0 (below_size z1_)); have n1_ := Aside0.mk (below_step z1_ hb); clear HB; have HO372 := n0_; have HB := n1_; clear n0_ n1_; (try clear hb); (try clear hb2); (try clear hk); (try clear hi); (try clear ho0); obtain ⟨Ao30, co30, eo30⟩ := Kd.R_slice HO372.out; subst eo30) | (go_at_call 29; (with_reducible refine (formeref10_Has.calls kj17 _ _ t370 a1 false _ ?side1 ?side2 A24.out).mono ?_); (case side1 => exact z16_); (case side2 => exact z60_); rintro e w' ⟨rfl, ⟨nd, rfl⟩⟩; (try first | exact ⟨rfl, _, World.drewN_drewN _ _ _⟩ | exact ⟨rfl, _, Eq.trans (World.drewN_drewN _ _ _) (congrArg (World.drewN _) (Nat.add_assoc _ _ _))⟩))); try go_wp2_with (first | (go_at_call 41; (with_reducible refine (formeref10_Way.calls kj17 _ _ l0 a2 t370 _ ?side1 ?side2 A23.out).mono ?_); (case side1 => exact z3_); (case side2 => exact HC0.out); rintro e w29 ⟨v371, rfl, ho0, hb⟩; have n0_ := Aside0.mk (Kd.R_lower ho0 (below_size z1_)); have n1_ := Aside0.mk (below_step z1_ hb); clear HB; have HO372 := n0_; have HB := n1_; clear n0_ n1_; (try clear hb); (try clear hb2); (try clear hk); (try clear hi); (try clear ho0); obtain ⟨Ao30, co30, eo30⟩ := Kd.R_slice HO372.out; subst eo30) | (go_at_call 29; (with_reducible refine (formeref10_Has.calls kj17 _ _ t370 a1 false _ ?side1 ?side2 A24.out).mono ?_); (case side1 => exact z16_); (case side2 => exact z60_); rintro e w' ⟨rfl, ⟨nd, rfl⟩⟩; (try first | exact ⟨rfl, _, World.drewN_drewN _ _ _⟩ | exact ⟨rfl, _, Eq.trans (World.drewN_drewN _ _ _) (congrArg (World.drewN _) (Nat.add_assoc _ _ _))⟩))))
           go_meet
           case rel => exact ⟨_, (false), z9_, H', ⟨by have := HJ5.out; have := HJ17.out; first | omega | exact Nat.le_refl _⟩, ⟨by repeat (first | (with_reducible first | exact HB.out | apply below_alloc | apply pw_below_drewN | apply below_drew1) | exact HB.out)⟩⟩
          ·rw [if_neg c28] at H
           have c28b0 : (a3 == 0) = false := beq_eq_false_iff_ne.mpr c28
           have c28b1 : (a3 != 0) = true := bne_iff_ne.mpr c28
           by_cases c31 : a3 = a1
           ·rw [if_pos c31] at H
            have c31b0 : (a3 == a1) = true := beq_iff_eq.mpr c31
            have c31b1 : (a3 != a1) = false := bne_eq_false_iff_eq.mpr c31
            clear c31
            have H' := Aside0.mk H
            clear H
            go_wp2_with (first | (go_at_call 41; (with_reducible refine (formeref10_Way.calls kj17 _ _ l0 a2 t370 _ ?side1 ?side2 A23.out).mono ?_); (case side1 => exact z3_); (case side2 => exact HC0.out); rintro e w32 ⟨v371, rfl, ho0, hb⟩; have n0_ := Aside0.mk (Kd.R_lower ho0 (below_size z1_)); have n1_ := Aside0.mk (below_step z1_ hb); clear HB; have HO372 := n0_; have HB := n1_; clear n0_ n1_; (try clear hb); (try clear hb2); (try clear hk); (try clear hi); (try clear ho0); obtain ⟨Ao33, co33, eo33⟩ := Kd.R_slice HO372.out; subst eo33) | (go_at_call 29; (with_reducible refine (formeref10_Has.calls kj17 _ _ t370 a1 false _ ?side1 ?side2 A24.out).mono ?_); (case side1 => exact z16_); (case side2 => exact z60_); rintro e w' ⟨rfl, ⟨nd, rfl⟩⟩; (try first | exact ⟨rfl, _, World.drewN_drewN _ _ _⟩ | exact ⟨rfl, _, Eq.trans (World.drewN_drewN _ _ _) (congrArg (World.drewN _) (Nat.add_assoc _ _ _))⟩)))
            repeat (go_quiet (first | (go_at_call 41; (with_reducible refine (formeref10_Way.calls kj17 _ _ l0 a2 t370 _ ?side1 ?side2 A23.out).mono ?_); (case side1 => exact z3_); (case side2 => exact HC0.out); rintro e w32 ⟨v371, rfl, ho0, hb⟩; have n0_ := Aside0.mk (Kd.R_lower ho0 (below_size z1_)); have n1_ := Aside0.mk (below_step z1_ hb); clear HB; have HO372 := n0_; have HB := n1_; clear n0_ n1_; (try clear hb); (try clear hb2); (try clear hk); (try clear hi); (try clear ho0); obtain ⟨Ao33, co33, eo33⟩ := Kd.R_slice HO372.out; subst eo33) | (go_at_call 29; (with_reducible refine (formeref10_Has.calls kj17 _ _ t370 a1 false _ ?side1 ?side2 A24.out).mono ?_); (case side1 => exact z16_); (case side2 => exact z60_); rintro e w' ⟨rfl, ⟨nd, rfl⟩⟩; (try first | exact ⟨rfl, _, World.drewN_drewN _ _ _⟩ | exact ⟨rfl, _, Eq.trans (World.drewN_drewN _ _ _) (congrArg (World.drewN _) (Nat.add_assoc _ _ _))⟩))); try go_wp2_with (first | (go_at_call 41; (with_reducible refine (formeref10_Way.calls kj17 _ _ l0 a2 t370 _ ?side1 ?side2 A23.out).mono ?_); (case side1 => exact z3_); (case side2 => exact HC0.out); rintro e w32 ⟨v371, rfl, ho0, hb⟩; have n0_ := Aside0.mk (Kd.R_lower ho0 (below_size z1_)); have n1_ := Aside0.mk (below_step z1_ hb); clear HB; have HO372 := n0_; have HB := n1_; clear n0_ n1_; (try clear hb); (try clear hb2); (try clear hk); (try clear hi); (try clear ho0); obtain ⟨Ao33, co33, eo33⟩ := Kd.R_slice HO372.out; subst eo33) | (go_at_call 29; (with_reducible refine (formeref10_Has.calls kj17 _ _ t370 a1 false _ ?side1 ?side2 A24.out).mono ?_); (case side1 => exact z16_); (case side2 => exact z60_); rintro e w' ⟨rfl, ⟨nd, rfl⟩⟩; (try first | exact ⟨rfl, _, World.drewN_drewN _ _ _⟩ | exact ⟨rfl, _, Eq.trans (World.drewN_drewN _ _ _) (congrArg (World.drewN _) (Nat.add_assoc _ _ _))⟩))))
            go_meet
            case rel => exact ⟨_, (true), z9_, H', ⟨by have := HJ5.out; have := HJ17.out; first | omega | exact Nat.le_refl _⟩, ⟨by repeat (first | (with_reducible first | exact HB.out | apply below_alloc | apply pw_below_drewN | apply below_drew1) | exact HB.out)⟩⟩
           ·rw [if_neg c31] at H
            have c31b0 : (a3 == a1) = false := beq_eq_false_iff_ne.mpr c31
            have c31b1 : (a3 != a1) = true := bne_iff_ne.mpr c31
            replace H := Option.bind_eq_some_iff.mp H
            obtain ⟨t374, A340, H⟩ := H
            try dsimp only at H
            have A34 := Aside0.mk A340
            clear A340
            replace H := Option.bind_eq_some_iff.mp H
            obtain ⟨t377, A350, H⟩ := H
            try dsimp only at H
            have A35 := Aside0.mk A350
            clear A350
            have H' := Aside0.mk H
            clear H
            go_wp2_with (first | (go_at_call 41; (with_reducible refine (formeref10_Way.calls kj17 _ _ l0 a2 t370 _ ?side1 ?side2 A23.out).mono ?_); (case side1 => exact z3_); (case side2 => exact HC0.out); rintro e w36 ⟨v371, rfl, ho0, hb⟩; have n0_ := Aside0.mk (Kd.R_lower ho0 (below_size z1_)); have n1_ := Aside0.mk (below_step z1_ hb); clear HB; have HO372 := n0_; have HB := n1_; clear n0_ n1_; (try clear hb); (try clear hb2); (try clear hk); (try clear hi); (try clear ho0); obtain ⟨Ao37, co37, eo37⟩ := Kd.R_slice HO372.out; subst eo37) | (go_at_call 29; (with_reducible refine (formeref10_Has.calls kj17 _ _ t370 a1 false _ ?side1 ?side2 A24.out).mono ?_); (case side1 => exact z16_); (case side2 => exact z60_); rintro e w' ⟨rfl, ⟨nd, rfl⟩⟩; (try first | exact ⟨rfl, _, World.drewN_drewN _ _ _⟩ | exact ⟨rfl, _, Eq.trans (World.drewN_drewN _ _ _) (congrArg (World.drewN _) (Nat.add_assoc _ _ _))⟩)) | (go_at_call 39; (with_reducible refine (formeref10_Children.calls kj17 _ _ l0 a2 t374 _ ?side1 ?side2 A34.out).mono ?_); (case side1 => exact z35_); (case side2 => exact HC0.out); rintro e w38 ⟨v375, rfl, ho0, hb⟩; have n0_ := Aside0.mk (Kd.R_elder' z48_ (Kd.R_base ho0) hb); have n1_ := Aside0.mk (Kd.R_lower (Kd.R_new' ho0 (Kd.R_lt z48_)) (below_size z1_)); have n2_ := Aside0.mk (below_step z1_ hb); clear HO372; clear HB; have HO372 := n0_; have HO376 := n1_; have HB := n2_; clear n0_ n1_ n2_; (try clear hb); (try clear hb2); (try clear hk); (try clear hi); (try clear ho0); obtain ⟨Ao39, co39, eo39⟩ := Kd.R_slice HO376.out; subst eo39) | (go_at_call 29; (with_reducible refine (formeref10_Has.calls kj17 _ _ t374 a3 t377 _ ?side1 ?side2 A35.out).mono ?_); (case side1 => exact z57_); (case side2 => exact (Kd.R_reads' HO376.out).2.1); rintro e w' ⟨rfl, ⟨nd, rfl⟩⟩; (try first | exact ⟨rfl, _, World.drewN_drewN _ _ _⟩ | exact ⟨rfl, _, Eq.trans (World.drewN_drewN _ _ _) (congrArg (World.drewN _) (Nat.add_assoc _ _ _))⟩)))
            repeat (go_quiet (first | (go_at_call 41; (with_reducible refine (formeref10_Way.calls kj17 _ _ l0 a2 t370 _ ?side1 ?side2 A23.out).mono ?_); (case side1 => exact z3_); (case side2 => exact HC0.out); rintro e w36 ⟨v371, rfl, ho0, hb⟩; have n0_ := Aside0.mk (Kd.R_lower ho0 (below_size z1_)); have n1_ := Aside0.mk (below_step z1_ hb); clear HB; have HO372 := n0_; have HB := n1_; clear n0_ n1_; (try clear hb); (try clear hb2); (try clear hk); (try clear hi); (try clear ho0); obtain ⟨Ao37, co37, eo37⟩ := Kd.R_slice HO372.out; subst eo37) | (go_at_call 29; (with_reducible refine (formeref10_Has.calls kj17 _ _ t370 a1 false _ ?side1 ?side2 A24.out).mono ?_); (case side1 => exact z16_); (case side2 => exact z60_); rintro e w' ⟨rfl, ⟨nd, rfl⟩⟩; (try first | exact ⟨rfl, _, World.drewN_drewN _ _ _⟩ | exact ⟨rfl, _, Eq.trans (World.drewN_drewN _ _ _) (congrArg (World.drewN _) (Nat.add_assoc _ _ _))⟩)) | (go_at_call 39; (with_reducible refine (formeref10_Children.calls kj17 _ _ l0 a2 t374 _ ?side1 ?side2 A34.out).mono ?_); (case side1 => exact z35_); (case side2 => exact HC0.out); rintro e w38 ⟨v375, rfl, ho0, hb⟩; have n0_ := Aside0.mk (Kd.R_elder' z48_ (Kd.R_base ho0) hb); have n1_ := Aside0.mk (Kd.R_lower (Kd.R_new' ho0 (Kd.R_lt z48_)) (below_size z1_)); have n2_ := Aside0.mk (below_step z1_ hb); clear HO372; clear HB; have HO372 := n0_; have HO376 := n1_; have HB := n2_; clear n0_ n1_ n2_; (try clear hb); (try clear hb2); (try clear hk); (try clear hi); (try clear ho0); obtain ⟨Ao39, co39, eo39⟩ := Kd.R_slice HO376.out; subst eo39) | (go_at_call 29; (with_reducible refine (formeref10_Has.calls kj17 _ _ t374 a3 t377 _ ?side1 ?side2 A35.out).mono ?_); (case side1 => exact z57_); (case side2 => exact (Kd.R_reads' HO376.out).2.1); rintro e w' ⟨rfl, ⟨nd, rfl⟩⟩; (try first | exact ⟨rfl, _, World.drewN_drewN _ _ _⟩ | exact ⟨rfl, _, Eq.trans (World.drewN_drewN _ _ _) (congrArg (World.drewN _) (Nat.add_assoc _ _ _))⟩))); try go_wp2_with (first | (go_at_call 41; (with_reducible refine (formeref10_Way.calls kj17 _ _ l0 a2 t370 _ ?side1 ?side2 A23.out).mono ?_); (case side1 => exact z3_); (case side2 => exact HC0.out); rintro e w36 ⟨v371, rfl, ho0, hb⟩; have n0_ := Aside0.mk (Kd.R_lower ho0 (below_size z1_)); have n1_ := Aside0.mk (below_step z1_ hb); clear HB; have HO372 := n0_; have HB := n1_; clear n0_ n1_; (try clear hb); (try clear hb2); (try clear hk); (try clear hi); (try clear ho0); obtain ⟨Ao37, co37, eo37⟩ := Kd.R_slice HO372.out; subst eo37) | (go_at_call 29; (with_reducible refine (formeref10_Has.calls kj17 _ _ t370 a1 false _ ?side1 ?side2 A24.out).mono ?_); (case side1 => exact z16_); (case side2 => exact z60_); rintro e w' ⟨rfl, ⟨nd, rfl⟩⟩; (try first | exact ⟨rfl, _, World.drewN_drewN _ _ _⟩ | exact ⟨rfl, _, Eq.trans (World.drewN_drewN _ _ _) (congrArg (World.drewN _) (Nat.add_assoc _ _ _))⟩)) | (go_at_call 39; (with_reducible refine (formeref10_Children.calls kj17 _ _ l0 a2 t374 _ ?side1 ?side2 A34.out).mono ?_); (case side1 => exact z35_); (case side2 => exact HC0.out); rintro e w38 ⟨v375, rfl, ho0, hb⟩; have n0_ := Aside0.mk (Kd.R_elder' z48_ (Kd.R_base ho0) hb); have n1_ := Aside0.mk (Kd.R_lower (Kd.R_new' ho0 (Kd.R_lt z48_)) (below_size z1_)); have n2_ := Aside0.mk (below_step z1_ hb); clear HO372; clear HB; have HO372 := n0_; have HO376 := n1_; have HB := n2_; clear n0_ n1_ n2_; (try clear hb); (try clear hb2); (try clear hk); (try clear hi); (try clear ho0); obtain ⟨Ao39, co39, eo39⟩ := Kd.R_slice HO376.out; subst eo39) | (go_at_call 29; (with_reducible refine (formeref10_Has.calls kj17 _ _ t374 a3 t377 _ ?side1 ?side2 A35.out).mono ?_); (case side1 => exact z57_); (case side2 => exact (Kd.R_reads' HO376.out).2.1); rintro e w' ⟨rfl, ⟨nd, rfl⟩⟩; (try first | exact ⟨rfl, _, World.drewN_drewN _ _ _⟩ | exact ⟨rfl, _, Eq.trans (World.drewN_drewN _ _ _) (congrArg (World.drewN _) (Nat.add_assoc _ _ _))⟩))))
            go_meet
            case rel => exact ⟨_, (!t377), z9_, H', ⟨by have := HJ5.out; have := HJ17.out; first | omega | exact Nat.le_refl _⟩, ⟨by repeat (first | (with_reducible first | exact HB.out | apply below_alloc | apply pw_below_drewN | apply below_drew1) | exact HB.out)⟩⟩
       case rest =>
        clear HC21
        try clear c1
        try clear c2
        try clear p2
        try clear c3
        try clear c8
        try clear c10
        try clear c12
        try clear c13
        try clear c13b0
        try clear c13b1
        try clear c15
        try clear c19
        try clear c19b0
        try clear c20
        try clear c22
        try clear c22b0
        try clear c22b1
        try clear c25
        try clear c26
        try clear c28
        try clear c28b0
        try clear c28b1
        try clear c31
        try clear c31b0
        try clear c31b1
        try clear p2
        obtain ⟨kq, x77_20, rfl, HA, HJ20, HB⟩ := hcut
        cases kq with
        | zero => exact absurd HA.out (by simp [formeref10_Move.j2])
        | succ kj20 =>
         have H := HA.out
         clear HA
         simp only [formeref10_Move.j2] at H
         by_cases c40 : x77_20 = true
         ·subst c40
          have H1 : (some (([] : List (S24)), 24)) = some (r1, r2) := by rw [if_pos rfl] at H; exact H
          clear H
          have H := H1
          clear H1
          simp only [Option.some.injEq, Prod.mk.injEq] at H
          obtain ⟨rfl, rfl⟩ := H
          go_wp2
          repeat (go_quiet (fail); try go_wp2)
          go_ret2
          exact ⟨_, by first | rfl | (simp [errW_none, errW_some] <;> rfl) | (simp [*, errW_none, errW_some] <;> rfl), by first | exact Kd.R_nil _ _ _ _ _ | exact Kd.N_nil _ _ _ _ _ | exact Kd.V_nil _ _ _ _ _ | exact Kd.Q_nil _ _ _ _ _ | exact Kd.S_nil _ _ _ _ _, by repeat (first | (with_reducible first | exact HB.out | apply below_alloc | apply pw_below_drewN | apply below_drew1) | exact HB.out)⟩
         ·replace c40 := Bool.eq_false_iff.mpr c40
          subst c40
          have H1 : (if 0 ≤ t368 then (if t368 < (l0.length : Int) then (if 0 ≤ t369 then (if t369 < (l0.length : Int) then ((formeref10_Stands.f ((rd_T24 l0 t368).f2) ((rd_T24 l0 t369).f2)).bind fun t380 => (if t380 = true then ((formeref10_split.f kj20 l0 a1).bind fun bt381 => ((formeref10_Index.f kj20 bt381.2 a1).bind fun t387 => (if 0 ≤ t387 then (if t387 < (bt381.2.length : Int) then ((formeref10_put.f kj20 bt381.1 (bt381.2.set (t387 : Int).toNat (⟨(rd_T24 bt381.2 t387).f0, a2, (rd_T24 bt381.2 t387).f2, (rd_T24 bt381.2 t387).f3, (rd_T24 bt381.2 t387).f4⟩ : S24)) a3).bind fun t389 => ((formeref10_Valid.f kj20 t389).bind fun t392 => (if t392 = true then (some (t389, 0)) else (some (([] : List (S24)), 2))))) else (none)) else (none)))) else (some (([] : List (S24)), 25)))) else (none)) else (none)) else (none)) else (none)) = some (r1, r2) := by rw [if_neg (show ¬ (false = true) by decide)] at H; exact H
          clear H
          have H := H1
          clear H1
          by_cases c41 : 0 ≤ t368
          ·rw [if_pos c41] at H
           have c41b0 : decide (0 ≤ t368) = true := decide_eq_true c41
           clear c41
           by_cases c42 : t368 < (l0.length : Int)
           rotate_left
           ·rw [if_neg c42] at H; exact absurd H (by simp)
           rw [if_pos c42] at H
           have c42b0 : decide (t368 < (l0.length : Int)) = true := decide_eq_true c42
           clear c42
           by_cases c43 : 0 ≤ t369
           rotate_left
           ·rw [if_neg c43] at H; exact absurd H (by simp)
           rw [if_pos c43] at H
           have c43b0 : decide (0 ≤ t369) = true := decide_eq_true c43
           clear c43
           by_cases c44 : t369 < (l0.length : Int)
           rotate_left
           ·rw [if_neg c44] at H; exact absurd H (by simp)
           rw [if_pos c44] at H
           have c44b0 : decide (t369 < (l0.length : Int)) = true := decide_eq_true c44
           clear c44
           replace H := Option.bind_eq_some_iff.mp H
           obtain ⟨t380, A450, H⟩ := H
           try dsimp only at H
           have A45 := Aside0.mk A450
           clear A450
           by_cases c46 : t380 = true
           ·subst c46
            have H1 : ((formeref10_split.f kj20 l0 a1).bind fun bt381 => ((formeref10_Index.f kj20 bt381.2 a1).bind fun t387 => (if 0 ≤ t387 then (if t387 < (bt381.2.length : Int) then ((formeref10_put.f kj20 bt381.1 (bt381.2.set (t387 : Int).toNat (⟨(rd_T24 bt381.2 t387).f0, a2, (rd_T24 bt381.2 t387).f2, (rd_T24 bt381.2 t387).f3, (rd_T24 bt381.2 t387).f4⟩ : S24)) a3).bind fun t389 => ((formeref10_Valid.f kj20 t389).bind fun t392 => (if t392 = true then (some (t389, 0)) else (some (([] : List (S24)), 2))))) else (none)) else (none)))) = some (r1, r2) := by rw [if_pos rfl] at H; exact H
            clear H
            have H := H1
            clear H1
            replace H := Option.bind_eq_some_iff.mp H
            obtain ⟨⟨t381, t382⟩, A470, H⟩ := H
            try dsimp only at H
            have A47 := Aside0.mk A470
            clear A470
            replace H := Option.bind_eq_some_iff.mp H
            obtain ⟨t387, A480, H⟩ := H
            try dsimp only at H
            have A48 := Aside0.mk A480
            clear A480
            by_cases c49 : 0 ≤ t387
            rotate_left
            ·rw [if_neg c49] at H; exact absurd H (by simp)
            rw [if_pos c49] at H
            have c49b0 : decide (0 ≤ t387) = true := decide_eq_true c49
            clear c49
            by_cases c50 : t387 < (t382.length : Int)
            rotate_left
            ·rw [if_neg c50] at H; exact absurd H (by simp)
            rw [if_pos c50] at H
            have c50b0 : decide (t387 < (t382.length : Int)) = true := decide_eq_true c50
            clear c50
            obtain ⟨y388, hy388⟩ : ∃ y_ : List (S24), y_ = (t382.set (t387 : Int).toNat (⟨(rd_T24 t382 t387).f0, a2, (rd_T24 t382 t387).f2, (rd_T24 t382 t387).f3, (rd_T24 t382 t387).f4⟩ : S24)) := ⟨_, rfl⟩
            replace H : ((formeref10_put.f kj20 t381 y388 a3).bind fun t389 => ((formeref10_Valid.f kj20 t389).bind fun t392 => (if t392 = true then (some (t389, 0)) else (some (([] : List (S24)), 2))))) = some (r1, r2) := by first | (rw [hy388]; with_reducible exact H) | (have H2_ := (Option.bind_some _ _).symm.trans H; rw [hy388]; with_reducible exact H2_) | (have H2_ := (Option.bind_some _ _).symm.trans H; with_reducible exact H2_) | with_reducible exact H | (rw [hy388]; exact H) | exact H
            have Ny388 := Aside0.mk hy388
            clear hy388
            replace H := Option.bind_eq_some_iff.mp H
            obtain ⟨t389, A520, H⟩ := H
            try dsimp only at H
            have A52 := Aside0.mk A520
            clear A520
            replace H := Option.bind_eq_some_iff.mp H
            obtain ⟨t392, A530, H⟩ := H
            try dsimp only at H
            have A53 := Aside0.mk A530
            clear A530
            by_cases c54 : t392 = true
            ·subst c54
             have H1 : (some (t389, 0)) = some (r1, r2) := by rw [if_pos rfl] at H; exact H
             clear H
             have H := H1
             clear H1
             simp only [Option.some.injEq, Prod.mk.injEq] at H
             obtain ⟨rfl, rfl⟩ := H
             have p378 : 0 ≤ (t368 : Int) := of_decide_eq_true z4_
             have q378 : t368 < (l0.length : Int) := of_decide_eq_true z4_
             obtain ⟨ad378, e378, hx378_0, hx378_1, hx378_2, hx378_3, hx378_4⟩ := at_T24 HR0.out t368 p378 q378
             cases e378
             replace hx378_0 := hbc_ HB.out hx378_0
             replace hx378_1 := hbc_ HB.out hx378_1
             replace hx378_2 := hbc_ HB.out hx378_2
             replace hx378_3 := hbc_ HB.out hx378_3
             replace hx378_4 := hbc_ HB.out hx378_4
             replace p378 := eq_true p378
             replace q378 := eq_true q378
             have p379 : 0 ≤ (t369 : Int) := of_decide_eq_true z4_
             have q379 : t369 < (l0.length : Int) := of_decide_eq_true z4_
             obtain ⟨ad379, e379, hx379_0, hx379_1, hx379_2, hx379_3, hx379_4⟩ := at_T24 HR0.out t369 p379 q379
             obtain rfl : ad378 = ad379 := (by injection e379)
             replace hx379_0 := hbc_ HB.out hx379_0
             replace hx379_1 := hbc_ HB.out hx379_1
             replace hx379_2 := hbc_ HB.out hx379_2
             replace hx379_3 := hbc_ HB.out hx379_3
             replace hx379_4 := hbc_ HB.out hx379_4
             replace p379 := eq_true p379
             replace q379 := eq_true q379
             go_wp2_with (first | (go_at_call 46; (with_reducible refine (formeref10_Stands.calls ((rd_T24 l0 t368).f2) ((rd_T24 l0 t369).f2) true _ A45.out).mono ?_); rintro e w' ⟨rfl, ⟨nd, rfl⟩⟩; (try first | exact ⟨rfl, _, World.drewN_drewN _ _ _⟩ | exact ⟨rfl, _, Eq.trans (World.drewN_drewN _ _ _) (congrArg (World.drewN _) (Nat.add_assoc _ _ _))⟩)) | (go_at_call 49; (with_reducible refine (formeref10_split.calls kj20 _ _ l0 a1 t381 t382 _ ?side1 ?side2 A47.out).mono ?_); (case side1 => exact z35_); (case side2 => exact HC0.out); rintro e w55 ⟨v383, v385, rfl, ho0, ho1, hb⟩; have n0_ := Aside0.mk (Kd.R_lower ho0 (below_size z1_)); have n1_ := Aside0.mk (Kd.R_lower ho1 (below_size z1_)); have n2_ := Aside0.mk (below_step z1_ hb); clear HB; have HO384 := n0_; have HO386 := n1_; have HB := n2_; clear n0_ n1_ n2_; (try clear hb); (try clear hb2); (try clear hk); (try clear hi); (try clear ho0); (try clear ho1); obtain ⟨Ao56, co56, eo56⟩ := Kd.R_slice HO386.out; subst eo56) | (go_at_call 34; (with_reducible refine (formeref10_Index.calls kj20 _ _ t382 a1 t387 _ ?side1 ?side2 A48.out).mono ?_); (case side1 => exact z17_); (case side2 => exact (Kd.R_reads' HO386.out).2.1); rintro e w' ⟨rfl, ⟨nd, rfl⟩⟩; (try first | exact ⟨rfl, _, World.drewN_drewN _ _ _⟩ | exact ⟨rfl, _, Eq.trans (World.drewN_drewN _ _ _) (congrArg (World.drewN _) (Nat.add_assoc _ _ _))⟩); have p51 : 0 ≤ (t387 : Int) := of_decide_eq_true z4_; have q51 : (t387 : Int) < ((t382.length : Int) : Int) := of_decide_eq_true z4_; obtain ⟨go51, co51, eo51, gb51, gl51, cl51, HG51⟩ := Kd.R_form HO386.out (by omega); (first | cases eo51 | (injection eo51 with ea_ en_ ec_; (first | subst ea_ | (injection ea_ with ea_; subst ea_)); subst ec_; clear en_)); have GB51 := Aside0.mk gb51; have GG51 := Aside0.mk HG51; clear gb51 gl51 HG51; obtain ⟨ce51, hcl51, hM51, hcc51, hfr51⟩ := Kd.R_elem HO386.out z24 (t387 : Int) p51 q51; obtain rfl := k24_openM hM51; have hx51_0 : w55.cell? ⟨go51, (t387 : Int).toNat * 5, none⟩ = some (.int .i64 ((rd_T24 t382 t387).f0)) := hcc51 0 _ rfl; have hx51_1 : w55.cell? ⟨go51, (t387 : Int).toNat * 5 + 1, none⟩ = some (.int .i64 ((rd_T24 t382 t387).f1)) := hcc51 1 _ rfl; have hx51_2 : w55.cell? ⟨go51, (t387 : Int).toNat * 5 + 2, none⟩ = some (.int .i64 ((rd_T24 t382 t387).f2)) := hcc51 2 _ rfl; have hx51_3 : w55.cell? ⟨go51, (t387 : Int).toNat * 5 + 3, none⟩ = some (.int .i64 ((rd_T24 t382 t387).f3)) := hcc51 3 _ rfl; have hx51_4 : w55.cell? ⟨go51, (t387 : Int).toNat * 5 + 4, none⟩ = some (.string ((rd_T24 t382 t387).f4)) := hcc51 4 _ rfl; have hf51_0 : w55.frozen? ⟨go51, (t387 : Int).toNat * 5, none⟩ = false := hfr51 0; have hf51_1 : w55.frozen? ⟨go51, (t387 : Int).toNat * 5 + 1, none⟩ = false := hfr51 1; have hf51_2 : w55.frozen? ⟨go51, (t387 : Int).toNat * 5 + 2, none⟩ = false := hfr51 2; have hf51_3 : w55.frozen? ⟨go51, (t387 : Int).toNat * 5 + 3, none⟩ = false := hfr51 3; have hf51_4 : w55.frozen? ⟨go51, (t387 : Int).toNat * 5 + 4, none⟩ = false := hfr51 4; clear hcl51 hcc51 hfr51 hM51; replace p51 := eq_true p51; replace q51 := eq_true q51; have HX57 := Aside0.mk (show Kd.R k24 24 w55 w.heap.size (fun k_ => some k_ ≠ (v383 : Value).ownBlock) (.slice (some ⟨go51, 0, none⟩) t382.length co56) t382 from z12_); obtain ⟨ce57, hcl57, hM57, hcc57, hfr57⟩ := Kd.R_elem HX57.out z24 (t387 : Int) (of_decide_eq_true z4_) z34_; obtain rfl := k24_openM hM57; have HP57 := Kd.R_seg HX57.out (t387 : Int) (of_decide_eq_true z4_) z34_ (seg := [.int .i64 a2]) (j := 1) hcl57 hcc57 (show 2 ≤ 5 from by decide) (x' := (⟨(rd_T24 t382 t387).f0, a2, (rd_T24 t382 t387).f2, (rd_T24 t382 t387).f3, (rd_T24 t382 t387).f4⟩ : S24)) (k24_mkM _ _ _ (⟨(rd_T24 t382 t387).f0, a2, (rd_T24 t382 t387).f2, (rd_T24 t382 t387).f3, (rd_T24 t382 t387).f4⟩ : S24) ) (fun _ hk => hk); have hx57_1 := hcc57 1 _ rfl; (try simp only [show (k24).sz = 5 from rfl, Nat.mul_one, Nat.add_zero] at hx57_1); have hf57_1 := hfr57 1; (try simp only [show (k24).sz = 5 from rfl, Nat.mul_one, Nat.add_zero] at hf57_1); clear hcl57 hcc57 hfr57 hM57) | ((with_reducible refine gate_store (t := 3) (p := 102) rfl ?_); (try (rw [drewN_self w55]; generalize hq_ : World.drewN w55 _ = w55; have n0_ := Aside0.mk (Kd.R_at hq_ HO384.out); have n1_ := Aside0.mk (Kd.R_at hq_ HO386.out); have n2_ := Aside0.mk (below_at hq_ HB.out); clear hq_ HO384 HO386 HB; have HO384 := n0_; have HO386 := n1_; have HB := n2_; clear n0_ n1_ n2_; (try (have HX57 := Aside0.mk (show Kd.R k24 24 w55 w.heap.size (fun k_ => some k_ ≠ (v383 : Value).ownBlock) (.slice (some ⟨go51, 0, none⟩) t382.length co56) t382 from z12_))); (try (obtain ⟨ce57, hcl57, hM57, hcc57, hfr57⟩ := Kd.R_elem HX57.out z24 (t387 : Int) (of_decide_eq_true z4_) z34_)); (try (obtain rfl := k24_openM hM57)); (try (have HP57 := Kd.R_seg HX57.out (t387 : Int) (of_decide_eq_true z4_) z34_ (seg := [.int .i64 a2]) (j := 1) hcl57 hcc57 (show 2 ≤ 5 from by decide) (x' := (⟨(rd_T24 t382 t387).f0, a2, (rd_T24 t382 t387).f2, (rd_T24 t382 t387).f3, (rd_T24 t382 t387).f4⟩ : S24)) (k24_mkM _ _ _ (⟨(rd_T24 t382 t387).f0, a2, (rd_T24 t382 t387).f2, (rd_T24 t382 t387).f3, (rd_T24 t382 t387).f4⟩ : S24) ) (fun _ hk => hk))); (try (have hx57_1 := hcc57 1 _ rfl)); (try (try simp only [show (k24).sz = 5 from rfl, Nat.mul_one, Nat.add_zero] at hx57_1)); (try (have hf57_1 := hfr57 1)); (try (try simp only [show (k24).sz = 5 from rfl, Nat.mul_one, Nat.add_zero] at hf57_1)); (try (clear hcl57 hcc57 hfr57 hM57)))); refine store_event (t := 3) (p := 102) (v := ?vo_w58) (w1 := (w55.setCell ⟨go51, (t387 : Int).toNat * 5 + 1, none⟩ (.int .i64 a2))) ?hg ?ho ?hn ?hr ?_; (case ho => rfl); (case hg => rfl); (case hn => rfl); (case hr => exact z13_); intro w58 hw; have hg : w55.grownBy w58 (some go51) := (by rw [hw]; exact HP57.2); have hp_ : Kd.R k24 24 w58 w.heap.size (fun k_ => some k_ ≠ (v383 : Value).ownBlock) (.slice (some ⟨go51, 0, none⟩) t382.length co56) y388 := (by rw [hw, Ny388.out]; exact HP57.1); clear HP57; have n0_ := Aside0.mk (Kd.R_after (v := (.slice (some ⟨go51, 0, none⟩) t382.length co56)) (v1 := (.slice (some ⟨go51, 0, none⟩) t382.length co56)) (ok := (fun _ => True)) z40_ hg (.inl rfl)); have n1_ := Aside0.mk (hp_); have n2_ := Aside0.mk ((by rw [hw]; exact below_set (HB.out) GB51.out : Below w.heap.size w w58)); clear HO384; clear HO386; clear HB; have HO384 := n0_; have HO386 := n1_; have HB := n2_; clear n0_ n1_ n2_; clear hg hw hp_; obtain ⟨Ao59, co59, eo59⟩ := Kd.R_slice HO384.out; subst eo59) | (go_at_call 47; refine calls_of_args (args' := #[.slice Ao59 t381.length co59, .slice (some ⟨go51, 0, none⟩) y388.length co56, .int .i64 a3]) z52_ ?_; (with_reducible refine (formeref10_put.calls kj20 _ _ t381 _ _ y388 a3 t389 _ ?side1 ?side2 ?side3 ?side4 A52.out).mono ?_); (case side1 => exact z38_); (case side2 => exact (Kd.R_reads' HO384.out).2.1); (case side3 => exact z17_); (case side4 => exact z44_); rintro e w60 ⟨v390, rfl, ho0, hb⟩; have n0_ := Aside0.mk (Kd.R_elder' z19_ (Kd.R_base ho0) hb); have n1_ := Aside0.mk (Kd.R_elder' z12_ (Kd.R_base ho0) hb); have n2_ := Aside0.mk (Kd.R_lower (Kd.R_new' (Kd.R_new' ho0 (Kd.R_lt z19_)) (Kd.R_lt z12_)) (below_size z1_)); have n3_ := Aside0.mk (below_step z1_ hb); clear HO384; clear HO386; clear HB; have HO384 := n0_; have HO386 := n1_; have HO391 := n2_; have HB := n3_; clear n0_ n1_ n2_ n3_; (try clear hb); (try clear hb2); (try clear hk); (try clear hi); (try clear ho0); obtain ⟨Ao61, co61, eo61⟩ := Kd.R_slice HO391.out; subst eo61) | (go_at_call 14; (with_reducible refine (formeref10_Valid.calls kj20 _ _ t389 true _ ?side1 ?side2 A53.out).mono ?_); (case side1 => exact z39_); (case side2 => exact (Kd.R_reads' HO391.out).2.1); rintro e w62 ⟨rfl, hb⟩; have n0_ := Aside0.mk (Kd.R_below z19_ hb); have n1_ := Aside0.mk (Kd.R_below z12_ hb); have n2_ := Aside0.mk (Kd.R_below z49_ hb); have n3_ := Aside0.mk (below_step z1_ hb); clear HO384; clear HO386; clear HO391; clear HB; have HO384 := n0_; have HO386 := n1_; have HO391 := n2_; have HB := n3_; clear n0_ n1_ n2_ n3_; (try clear hb); (try clear hb2); (try clear hk); (try clear hi)))
             repeat (go_quiet (first | (go_at_call 46; (with_reducible refine (formeref10_Stands.calls ((rd_T24 l0 t368).f2) ((rd_T24 l0 t369).f2) true _ A45.out).mono ?_); rintro e w' ⟨rfl, ⟨nd, rfl⟩⟩; (try first | exact ⟨rfl, _, World.drewN_drewN _ _ _⟩ | exact ⟨rfl, _, Eq.trans (World.drewN_drewN _ _ _) (congrArg (World.drewN _) (Nat.add_assoc _ _ _))⟩)) | (go_at_call 49; (with_reducible refine (formeref10_split.calls kj20 _ _ l0 a1 t381 t382 _ ?side1 ?side2 A47.out).mono ?_); (case side1 => exact z35_); (case side2 => exact HC0.out); rintro e w55 ⟨v383, v385, rfl, ho0, ho1, hb⟩; have n0_ := Aside0.mk (Kd.R_lower ho0 (below_size z1_)); have n1_ := Aside0.mk (Kd.R_lower ho1 (below_size z1_)); have n2_ := Aside0.mk (below_step z1_ hb); clear HB; have HO384 := n0_; have HO386 := n1_; have HB := n2_; clear n0_ n1_ n2_; (try clear hb); (try clear hb2); (try clear hk); (try clear hi); (try clear ho0); (try clear ho1); obtain ⟨Ao56, co56, eo56⟩ := Kd.R_slice HO386.out; subst eo56) | (go_at_call 34; (with_reducible refine (formeref10_Index.calls kj20 _ _ t382 a1 t387 _ ?side1 ?side2 A48.out).mono ?_); (case side1 => exact z17_); (case side2 => exact (Kd.R_reads' HO386.out).2.1); rintro e w' ⟨rfl, ⟨nd, rfl⟩⟩; (try first | exact ⟨rfl, _, World.drewN_drewN _ _ _⟩ | exact ⟨rfl, _, Eq.trans (World.drewN_drewN _ _ _) (congrArg (World.drewN _) (Nat.add_assoc _ _ _))⟩); have p51 : 0 ≤ (t387 : Int) := of_decide_eq_true z4_; have q51 : (t387 : Int) < ((t382.length : Int) : Int) := of_decide_eq_true z4_; obtain ⟨go51, co51, eo51, gb51, gl51, cl51, HG51⟩ := Kd.R_form HO386.out (by omega); (first | cases eo51 | (injection eo51 with ea_ en_ ec_; (first | subst ea_ | (injection ea_ with ea_; subst ea_)); subst ec_; clear en_)); have GB51 := Aside0.mk gb51; have GG51 := Aside0.mk HG51; clear gb51 gl51 HG51; obtain ⟨ce51, hcl51, hM51, hcc51, hfr51⟩ := Kd.R_elem HO386.out z24 (t387 : Int) p51 q51; obtain rfl := k24_openM hM51; have hx51_0 : w55.cell? ⟨go51, (t387 : Int).toNat * 5, none⟩ = some (.int .i64 ((rd_T24 t382 t387).f0)) := hcc51 0 _ rfl; have hx51_1 : w55.cell? ⟨go51, (t387 : Int).toNat * 5 + 1, none⟩ = some (.int .i64 ((rd_T24 t382 t387).f1)) := hcc51 1 _ rfl; have hx51_2 : w55.cell? ⟨go51, (t387 : Int).toNat * 5 + 2, none⟩ = some (.int .i64 ((rd_T24 t382 t387).f2)) := hcc51 2 _ rfl; have hx51_3 : w55.cell? ⟨go51, (t387 : Int).toNat * 5 + 3, none⟩ = some (.int .i64 ((rd_T24 t382 t387).f3)) := hcc51 3 _ rfl; have hx51_4 : w55.cell? ⟨go51, (t387 : Int).toNat * 5 + 4, none⟩ = some (.string ((rd_T24 t382 t387).f4)) := hcc51 4 _ rfl; have hf51_0 : w55.frozen? ⟨go51, (t387 : Int).toNat * 5, none⟩ = false := hfr51 0; have hf51_1 : w55.frozen? ⟨go51, (t387 : Int).toNat * 5 + 1, none⟩ = false := hfr51 1; have hf51_2 : w55.frozen? ⟨go51, (t387 : Int).toNat * 5 + 2, none⟩ = false := hfr51 2; have hf51_3 : w55.frozen? ⟨go51, (t387 : Int).toNat * 5 + 3, none⟩ = false := hfr51 3; have hf51_4 : w55.frozen? ⟨go51, (t387 : Int).toNat * 5 + 4, none⟩ = false := hfr51 4; clear hcl51 hcc51 hfr51 hM51; replace p51 := eq_true p51; replace q51 := eq_true q51; have HX57 := Aside0.mk (show Kd.R k24 24 w55 w.heap.size (fun k_ => some k_ ≠ (v383 : Value).ownBlock) (.slice (some ⟨go51, 0, none⟩) t382.length co56) t382 from z12_); obtain ⟨ce57, hcl57, hM57, hcc57, hfr57⟩ := Kd.R_elem HX57.out z24 (t387 : Int) (of_decide_eq_true z4_) z34_; obtain rfl := k24_openM hM57; have HP57 := Kd.R_seg HX57.out (t387 : Int) (of_decide_eq_true z4_) z34_ (seg := [.int .i64 a2]) (j := 1) hcl57 hcc57 (show 2 ≤ 5 from by decide) (x' := (⟨(rd_T24 t382 t387).f0, a2, (rd_T24 t382 t387).f2, (rd_T24 t382 t387).f3, (rd_T24 t382 t387).f4⟩ : S24)) (k24_mkM _ _ _ (⟨(rd_T24 t382 t387).f0, a2, (rd_T24 t382 t387).f2, (rd_T24 t382 t387).f3, (rd_T24 t382 t387).f4⟩ : S24) ) (fun _ hk => hk); have hx57_1 := hcc57 1 _ rfl; (try simp only [show (k24).sz = 5 from rfl, Nat.mul_one, Nat.add_zero] at hx57_1); have hf57_1 := hfr57 1; (try simp only [show (k24).sz = 5 from rfl, Nat.mul_one, Nat.add_zero] at hf57_1); clear hcl57 hcc57 hfr57 hM57) | ((with_reducible refine gate_store (t := 3) (p := 102) rfl ?_); (try (rw [drewN_self w55]; generalize hq_ : World.drewN w55 _ = w55; have n0_ := Aside0.mk (Kd.R_at hq_ HO384.out); have n1_ := Aside0.mk (Kd.R_at hq_ HO386.out); have n2_ := Aside0.mk (below_at hq_ HB.out); clear hq_ HO384 HO386 HB; have HO384 := n0_; have HO386 := n1_; have HB := n2_; clear n0_ n1_ n2_; (try (have HX57 := Aside0.mk (show Kd.R k24 24 w55 w.heap.size (fun k_ => some k_ ≠ (v383 : Value).ownBlock) (.slice (some ⟨go51, 0, none⟩) t382.length co56) t382 from z12_))); (try (obtain ⟨ce57, hcl57, hM57, hcc57, hfr57⟩ := Kd.R_elem HX57.out z24 (t387 : Int) (of_decide_eq_true z4_) z34_)); (try (obtain rfl := k24_openM hM57)); (try (have HP57 := Kd.R_seg HX57.out (t387 : Int) (of_decide_eq_true z4_) z34_ (seg := [.int .i64 a2]) (j := 1) hcl57 hcc57 (show 2 ≤ 5 from by decide) (x' := (⟨(rd_T24 t382 t387).f0, a2, (rd_T24 t382 t387).f2, (rd_T24 t382 t387).f3, (rd_T24 t382 t387).f4⟩ : S24)) (k24_mkM _ _ _ (⟨(rd_T24 t382 t387).f0, a2, (rd_T24 t382 t387).f2, (rd_T24 t382 t387).f3, (rd_T24 t382 t387).f4⟩ : S24) ) (fun _ hk => hk))); (try (have hx57_1 := hcc57 1 _ rfl)); (try (try simp only [show (k24).sz = 5 from rfl, Nat.mul_one, Nat.add_zero] at hx57_1)); (try (have hf57_1 := hfr57 1)); (try (try simp only [show (k24).sz = 5 from rfl, Nat.mul_one, Nat.add_zero] at hf57_1)); (try (clear hcl57 hcc57 hfr57 hM57)))); refine store_event (t := 3) (p := 102) (v := ?vo_w58) (w1 := (w55.setCell ⟨go51, (t387 : Int).toNat * 5 + 1, none⟩ (.int .i64 a2))) ?hg ?ho ?hn ?hr ?_; (case ho => rfl); (case hg => rfl); (case hn => rfl); (case hr => exact z13_); intro w58 hw; have hg : w55.grownBy w58 (some go51) := (by rw [hw]; exact HP57.2); have hp_ : Kd.R k24 24 w58 w.heap.size (fun k_ => some k_ ≠ (v383 : Value).ownBlock) (.slice (some ⟨go51, 0, none⟩) t382.length co56) y388 := (by rw [hw, Ny388.out]; exact HP57.1); clear HP57; have n0_ := Aside0.mk (Kd.R_after (v := (.slice (some ⟨go51, 0, none⟩) t382.length co56)) (v1 := (.slice (some ⟨go51, 0, none⟩) t382.length co56)) (ok := (fun _ => True)) z40_ hg (.inl rfl)); have n1_ := Aside0.mk (hp_); have n2_ := Aside0.mk ((by rw [hw]; exact below_set (HB.out) GB51.out : Below w.heap.size w w58)); clear HO384; clear HO386; clear HB; have HO384 := n0_; have HO386 := n1_; have HB := n2_; clear n0_ n1_ n2_; clear hg hw hp_; obtain ⟨Ao59, co59, eo59⟩ := Kd.R_slice HO384.out; subst eo59) | (go_at_call 47; refine calls_of_args (args' := #[.slice Ao59 t381.length co59, .slice (some ⟨go51, 0, none⟩) y388.length co56, .int .i64 a3]) z52_ ?_; (with_reducible refine (formeref10_put.calls kj20 _ _ t381 _ _ y388 a3 t389 _ ?side1 ?side2 ?side3 ?side4 A52.out).mono ?_); (case side1 => exact z38_); (case side2 => exact (Kd.R_reads' HO384.out).2.1); (case side3 => exact z17_); (case side4 => exact z44_); rintro e w60 ⟨v390, rfl, ho0, hb⟩; have n0_ := Aside0.mk (Kd.R_elder' z19_ (Kd.R_base ho0) hb); have n1_ := Aside0.mk (Kd.R_elder' z12_ (Kd.R_base ho0) hb); have n2_ := Aside0.mk (Kd.R_lower (Kd.R_new' (Kd.R_new' ho0 (Kd.R_lt z19_)) (Kd.R_lt z12_)) (below_size z1_)); have n3_ := Aside0.mk (below_step z1_ hb); clear HO384; clear HO386; clear HB; have HO384 := n0_; have HO386 := n1_; have HO391 := n2_; have HB := n3_; clear n0_ n1_ n2_ n3_; (try clear hb); (try clear hb2); (try clear hk); (try clear hi); (try clear ho0); obtain ⟨Ao61, co61, eo61⟩ := Kd.R_slice HO391.out; subst eo61) | (go_at_call 14; (with_reducible refine (formeref10_Valid.calls kj20 _ _ t389 true _ ?side1 ?side2 A53.out).mono ?_); (case side1 => exact z39_); (case side2 => exact (Kd.R_reads' HO391.out).2.1); rintro e w62 ⟨rfl, hb⟩; have n0_ := Aside0.mk (Kd.R_below z19_ hb); have n1_ := Aside0.mk (Kd.R_below z12_ hb); have n2_ := Aside0.mk (Kd.R_below z49_ hb); have n3_ := Aside0.mk (below_step z1_ hb); clear HO384; clear HO386; clear HO391; clear HB; have HO384 := n0_; have HO386 := n1_; have HO391 := n2_; have HB := n3_; clear n0_ n1_ n2_ n3_; (try clear hb); (try clear hb2); (try clear hk); (try clear hi))); try go_wp2_with (first | (go_at_call 46; (with_reducible refine (formeref10_Stands.calls ((rd_T24 l0 t368).f2) ((rd_T24 l0 t369).f2) true _ A45.out).mono ?_); rintro e w' ⟨rfl, ⟨nd, rfl⟩⟩; (try first | exact ⟨rfl, _, World.drewN_drewN _ _ _⟩ | exact ⟨rfl, _, Eq.trans (World.drewN_drewN _ _ _) (congrArg (World.drewN _) (Nat.add_assoc _ _ _))⟩)) | (go_at_call 49; (with_reducible refine (formeref10_split.calls kj20 _ _ l0 a1 t381 t382 _ ?side1 ?side2 A47.out).mono ?_); (case side1 => exact z35_); (case side2 => exact HC0.out); rintro e w55 ⟨v383, v385, rfl, ho0, ho1, hb⟩; have n0_ := Aside0.mk (Kd.R_lower ho0 (below_size z1_)); have n1_ := Aside0.mk (Kd.R_lower ho1 (below_size z1_)); have n2_ := Aside0.mk (below_step z1_ hb); clear HB; have HO384 := n0_; have HO386 := n1_; have HB := n2_; clear n0_ n1_ n2_; (try clear hb); (try clear hb2); (try clear hk); (try clear hi); (try clear ho0); (try clear ho1); obtain ⟨Ao56, co56, eo56⟩ := Kd.R_slice HO386.out; subst eo56) | (go_at_call 34; (with_reducible refine (formeref10_Index.calls kj20 _ _ t382 a1 t387 _ ?side1 ?side2 A48.out).mono ?_); (case side1 => exact z17_); (case side2 => exact (Kd.R_reads' HO386.out).2.1); rintro e w' ⟨rfl, ⟨nd, rfl⟩⟩; (try first | exact ⟨rfl, _, World.drewN_drewN _ _ _⟩ | exact ⟨rfl, _, Eq.trans (World.drewN_drewN _ _ _) (congrArg (World.drewN _) (Nat.add_assoc _ _ _))⟩); have p51 : 0 ≤ (t387 : Int) := of_decide_eq_true z4_; have q51 : (t387 : Int) < ((t382.length : Int) : Int) := of_decide_eq_true z4_; obtain ⟨go51, co51, eo51, gb51, gl51, cl51, HG51⟩ := Kd.R_form HO386.out (by omega); (first | cases eo51 | (injection eo51 with ea_ en_ ec_; (first | subst ea_ | (injection ea_ with ea_; subst ea_)); subst ec_; clear en_)); have GB51 := Aside0.mk gb51; have GG51 := Aside0.mk HG51; clear gb51 gl51 HG51; obtain ⟨ce51, hcl51, hM51, hcc51, hfr51⟩ := Kd.R_elem HO386.out z24 (t387 : Int) p51 q51; obtain rfl := k24_openM hM51; have hx51_0 : w55.cell? ⟨go51, (t387 : Int).toNat * 5, none⟩ = some (.int .i64 ((rd_T24 t382 t387).f0)) := hcc51 0 _ rfl; have hx51_1 : w55.cell? ⟨go51, (t387 : Int).toNat * 5 + 1, none⟩ = some (.int .i64 ((rd_T24 t382 t387).f1)) := hcc51 1 _ rfl; have hx51_2 : w55.cell? ⟨go51, (t387 : Int).toNat * 5 + 2, none⟩ = some (.int .i64 ((rd_T24 t382 t387).f2)) := hcc51 2 _ rfl; have hx51_3 : w55.cell? ⟨go51, (t387 : Int).toNat * 5 + 3, none⟩ = some (.int .i64 ((rd_T24 t382 t387).f3)) := hcc51 3 _ rfl; have hx51_4 : w55.cell? ⟨go51, (t387 : Int).toNat * 5 + 4, none⟩ = some (.string ((rd_T24 t382 t387).f4)) := hcc51 4 _ rfl; have hf51_0 : w55.frozen? ⟨go51, (t387 : Int).toNat * 5, none⟩ = false := hfr51 0; have hf51_1 : w55.frozen? ⟨go51, (t387 : Int).toNat * 5 + 1, none⟩ = false := hfr51 1; have hf51_2 : w55.frozen? ⟨go51, (t387 : Int).toNat * 5 + 2, none⟩ = false := hfr51 2; have hf51_3 : w55.frozen? ⟨go51, (t387 : Int).toNat * 5 + 3, none⟩ = false := hfr51 3; have hf51_4 : w55.frozen? ⟨go51, (t387 : Int).toNat * 5 + 4, none⟩ = false := hfr51 4; clear hcl51 hcc51 hfr51 hM51; replace p51 := eq_true p51; replace q51 := eq_true q51; have HX57 := Aside0.mk (show Kd.R k24 24 w55 w.heap.size (fun k_ => some k_ ≠ (v383 : Value).ownBlock) (.slice (some ⟨go51, 0, none⟩) t382.length co56) t382 from z12_); obtain ⟨ce57, hcl57, hM57, hcc57, hfr57⟩ := Kd.R_elem HX57.out z24 (t387 : Int) (of_decide_eq_true z4_) z34_; obtain rfl := k24_openM hM57; have HP57 := Kd.R_seg HX57.out (t387 : Int) (of_decide_eq_true z4_) z34_ (seg := [.int .i64 a2]) (j := 1) hcl57 hcc57 (show 2 ≤ 5 from by decide) (x' := (⟨(rd_T24 t382 t387).f0, a2, (rd_T24 t382 t387).f2, (rd_T24 t382 t387).f3, (rd_T24 t382 t387).f4⟩ : S24)) (k24_mkM _ _ _ (⟨(rd_T24 t382 t387).f0, a2, (rd_T24 t382 t387).f2, (rd_T24 t382 t387).f3, (rd_T24 t382 t387).f4⟩ : S24) ) (fun _ hk => hk); have hx57_1 := hcc57 1 _ rfl; (try simp only [show (k24).sz = 5 from rfl, Nat.mul_one, Nat.add_zero] at hx57_1); have hf57_1 := hfr57 1; (try simp only [show (k24).sz = 5 from rfl, Nat.mul_one, Nat.add_zero] at hf57_1); clear hcl57 hcc57 hfr57 hM57) | ((with_reducible refine gate_store (t := 3) (p := 102) rfl ?_); (try (rw [drewN_self w55]; generalize hq_ : World.drewN w55 _ = w55; have n0_ := Aside0.mk (Kd.R_at hq_ HO384.out); have n1_ := Aside0.mk (Kd.R_at hq_ HO386.out); have n2_ := Aside0.mk (below_at hq_ HB.out); clear hq_ HO384 HO386 HB; have HO384 := n0_; have HO386 := n1_; have HB := n2_; clear n0_ n1_ n2_; (try (have HX57 := Aside0.mk (show Kd.R k24 24 w55 w.heap.size (fun k_ => some k_ ≠ (v383 : Value).ownBlock) (.slice (some ⟨go51, 0, none⟩) t382.length co56) t382 from z12_))); (try (obtain ⟨ce57, hcl57, hM57, hcc57, hfr57⟩ := Kd.R_elem HX57.out z24 (t387 : Int) (of_decide_eq_true z4_) z34_)); (try (obtain rfl := k24_openM hM57)); (try (have HP57 := Kd.R_seg HX57.out (t387 : Int) (of_decide_eq_true z4_) z34_ (seg := [.int .i64 a2]) (j := 1) hcl57 hcc57 (show 2 ≤ 5 from by decide) (x' := (⟨(rd_T24 t382 t387).f0, a2, (rd_T24 t382 t387).f2, (rd_T24 t382 t387).f3, (rd_T24 t382 t387).f4⟩ : S24)) (k24_mkM _ _ _ (⟨(rd_T24 t382 t387).f0, a2, (rd_T24 t382 t387).f2, (rd_T24 t382 t387).f3, (rd_T24 t382 t387).f4⟩ : S24) ) (fun _ hk => hk))); (try (have hx57_1 := hcc57 1 _ rfl)); (try (try simp only [show (k24).sz = 5 from rfl, Nat.mul_one, Nat.add_zero] at hx57_1)); (try (have hf57_1 := hfr57 1)); (try (try simp only [show (k24).sz = 5 from rfl, Nat.mul_one, Nat.add_zero] at hf57_1)); (try (clear hcl57 hcc57 hfr57 hM57)))); refine store_event (t := 3) (p := 102) (v := ?vo_w58) (w1 := (w55.setCell ⟨go51, (t387 : Int).toNat * 5 + 1, none⟩ (.int .i64 a2))) ?hg ?ho ?hn ?hr ?_; (case ho => rfl); (case hg => rfl); (case hn => rfl); (case hr => exact z13_); intro w58 hw; have hg : w55.grownBy w58 (some go51) := (by rw [hw]; exact HP57.2); have hp_ : Kd.R k24 24 w58 w.heap.size (fun k_ => some k_ ≠ (v383 : Value).ownBlock) (.slice (some ⟨go51, 0, none⟩) t382.length co56) y388 := (by rw [hw, Ny388.out]; exact HP57.1); clear HP57; have n0_ := Aside0.mk (Kd.R_after (v := (.slice (some ⟨go51, 0, none⟩) t382.length co56)) (v1 := (.slice (some ⟨go51, 0, none⟩) t382.length co56)) (ok := (fun _ => True)) z40_ hg (.inl rfl)); have n1_ := Aside0.mk (hp_); have n2_ := Aside0.mk ((by rw [hw]; exact below_set (HB.out) GB51.out : Below w.heap.size w w58)); clear HO384; clear HO386; clear HB; have HO384 := n0_; have HO386 := n1_; have HB := n2_; clear n0_ n1_ n2_; clear hg hw hp_; obtain ⟨Ao59, co59, eo59⟩ := Kd.R_slice HO384.out; subst eo59) | (go_at_call 47; refine calls_of_args (args' := #[.slice Ao59 t381.length co59, .slice (some ⟨go51, 0, none⟩) y388.length co56, .int .i64 a3]) z52_ ?_; (with_reducible refine (formeref10_put.calls kj20 _ _ t381 _ _ y388 a3 t389 _ ?side1 ?side2 ?side3 ?side4 A52.out).mono ?_); (case side1 => exact z38_); (case side2 => exact (Kd.R_reads' HO384.out).2.1); (case side3 => exact z17_); (case side4 => exact z44_); rintro e w60 ⟨v390, rfl, ho0, hb⟩; have n0_ := Aside0.mk (Kd.R_elder' z19_ (Kd.R_base ho0) hb); have n1_ := Aside0.mk (Kd.R_elder' z12_ (Kd.R_base ho0) hb); have n2_ := Aside0.mk (Kd.R_lower (Kd.R_new' (Kd.R_new' ho0 (Kd.R_lt z19_)) (Kd.R_lt z12_)) (below_size z1_)); have n3_ := Aside0.mk (below_step z1_ hb); clear HO384; clear HO386; clear HB; have HO384 := n0_; have HO386 := n1_; have HO391 := n2_; have HB := n3_; clear n0_ n1_ n2_ n3_; (try clear hb); (try clear hb2); (try clear hk); (try clear hi); (try clear ho0); obtain ⟨Ao61, co61, eo61⟩ := Kd.R_slice HO391.out; subst eo61) | (go_at_call 14; (with_reducible refine (formeref10_Valid.calls kj20 _ _ t389 true _ ?side1 ?side2 A53.out).mono ?_); (case side1 => exact z39_); (case side2 => exact (Kd.R_reads' HO391.out).2.1); rintro e w62 ⟨rfl, hb⟩; have n0_ := Aside0.mk (Kd.R_below z19_ hb); have n1_ := Aside0.mk (Kd.R_below z12_ hb); have n2_ := Aside0.mk (Kd.R_below z49_ hb); have n3_ := Aside0.mk (below_step z1_ hb); clear HO384; clear HO386; clear HO391; clear HB; have HO384 := n0_; have HO386 := n1_; have HO391 := n2_; have HB := n3_; clear n0_ n1_ n2_ n3_; (try clear hb); (try clear hb2); (try clear hk); (try clear hi))))
             go_ret2
             exact ⟨_, by first | rfl | (simp [errW_none, errW_some] <;> rfl) | (simp [*, errW_none, errW_some] <;> rfl), by (with_reducible repeat (first | apply Kd.R_alloc | apply Kd.R_drewN | apply Kd.R_drew)); exact Kd.R_mono HO391.out (fun _ hk => trivial), by repeat (first | (with_reducible first | exact HB.out | apply below_alloc | apply pw_below_drewN | apply below_drew1) | exact HB.out)⟩
            ·replace c54 := Bool.eq_false_iff.mpr c54
             subst c54
             have H1 : (some (([] : List (S24)), 2)) = some (r1, r2) := by rw [if_neg (show ¬ (false = true) by decide)] at H; exact H
             clear H
             have H := H1
             clear H1
             simp only [Option.some.injEq, Prod.mk.injEq] at H
             obtain ⟨rfl, rfl⟩ := H
             have p378 : 0 ≤ (t368 : Int) := of_decide_eq_true z4_
             have q378 : t368 < (l0.length : Int) := of_decide_eq_true z4_
             obtain ⟨ad378, e378, hx378_0, hx378_1, hx378_2, hx378_3, hx378_4⟩ := at_T24 HR0.out t368 p378 q378
             cases e378
             replace hx378_0 := hbc_ HB.out hx378_0
             replace hx378_1 := hbc_ HB.out hx378_1
             replace hx378_2 := hbc_ HB.out hx378_2
             replace hx378_3 := hbc_ HB.out hx378_3
             replace hx378_4 := hbc_ HB.out hx378_4
             replace p378 := eq_true p378
             replace q378 := eq_true q378
             have p379 : 0 ≤ (t369 : Int) := of_decide_eq_true z4_
             have q379 : t369 < (l0.length : Int) := of_decide_eq_true z4_
             obtain ⟨ad379, e379, hx379_0, hx379_1, hx379_2, hx379_3, hx379_4⟩ := at_T24 HR0.out t369 p379 q379
             obtain rfl : ad378 = ad379 := (by injection e379)
             replace hx379_0 := hbc_ HB.out hx379_0
             replace hx379_1 := hbc_ HB.out hx379_1
             replace hx379_2 := hbc_ HB.out hx379_2
             replace hx379_3 := hbc_ HB.out hx379_3
             replace hx379_4 := hbc_ HB.out hx379_4
             replace p379 := eq_true p379
             replace q379 := eq_true q379
             go_wp2_with (first | (go_at_call 46; (with_reducible refine (formeref10_Stands.calls ((rd_T24 l0 t368).f2) ((rd_T24 l0 t369).f2) true _ A45.out).mono ?_); rintro e w' ⟨rfl, ⟨nd, rfl⟩⟩; (try first | exact ⟨rfl, _, World.drewN_drewN _ _ _⟩ | exact ⟨rfl, _, Eq.trans (World.drewN_drewN _ _ _) (congrArg (World.drewN _) (Nat.add_assoc _ _ _))⟩)) | (go_at_call 49; (with_reducible refine (formeref10_split.calls kj20 _ _ l0 a1 t381 t382 _ ?side1 ?side2 A47.out).mono ?_); (case side1 => exact z35_); (case side2 => exact HC0.out); rintro e w63 ⟨v383, v385, rfl, ho0, ho1, hb⟩; have n0_ := Aside0.mk (Kd.R_lower ho0 (below_size z1_)); have n1_ := Aside0.mk (Kd.R_lower ho1 (below_size z1_)); have n2_ := Aside0.mk (below_step z1_ hb); clear HB; have HO384 := n0_; have HO386 := n1_; have HB := n2_; clear n0_ n1_ n2_; (try clear hb); (try clear hb2); (try clear hk); (try clear hi); (try clear ho0); (try clear ho1); obtain ⟨Ao64, co64, eo64⟩ := Kd.R_slice HO386.out; subst eo64) | (go_at_call 34; (with_reducible refine (formeref10_Index.calls kj20 _ _ t382 a1 t387 _ ?side1 ?side2 A48.out).mono ?_); (case side1 => exact z17_); (case side2 => exact (Kd.R_reads' HO386.out).2.1); rintro e w' ⟨rfl, ⟨nd, rfl⟩⟩; (try first | exact ⟨rfl, _, World.drewN_drewN _ _ _⟩ | exact ⟨rfl, _, Eq.trans (World.drewN_drewN _ _ _) (congrArg (World.drewN _) (Nat.add_assoc _ _ _))⟩); have p51 : 0 ≤ (t387 : Int) := of_decide_eq_true z4_; have q51 : (t387 : Int) < ((t382.length : Int) : Int) := of_decide_eq_true z4_; obtain ⟨go51, co51, eo51, gb51, gl51, cl51, HG51⟩ := Kd.R_form HO386.out (by omega); (first | cases eo51 | (injection eo51 with ea_ en_ ec_; (first | subst ea_ | (injection ea_ with ea_; subst ea_)); subst ec_; clear en_)); have GB51 := Aside0.mk gb51; have GG51 := Aside0.mk HG51; clear gb51 gl51 HG51; obtain ⟨ce51, hcl51, hM51, hcc51, hfr51⟩ := Kd.R_elem HO386.out z24 (t387 : Int) p51 q51; obtain rfl := k24_openM hM51; have hx51_0 : w63.cell? ⟨go51, (t387 : Int).toNat * 5, none⟩ = some (.int .i64 ((rd_T24 t382 t387).f0)) := hcc51 0 _ rfl; have hx51_1 : w63.cell? ⟨go51, (t387 : Int).toNat * 5 + 1, none⟩ = some (.int .i64 ((rd_T24 t382 t387).f1)) := hcc51 1 _ rfl; have hx51_2 : w63.cell? ⟨go51, (t387 : Int).toNat * 5 + 2, none⟩ = some (.int .i64 ((rd_T24 t382 t387).f2)) := hcc51 2 _ rfl; have hx51_3 : w63.cell? ⟨go51, (t387 : Int).toNat * 5 + 3, none⟩ = some (.int .i64 ((rd_T24 t382 t387).f3)) := hcc51 3 _ rfl; have hx51_4 : w63.cell? ⟨go51, (t387 : Int).toNat * 5 + 4, none⟩ = some (.string ((rd_T24 t382 t387).f4)) := hcc51 4 _ rfl; have hf51_0 : w63.frozen? ⟨go51, (t387 : Int).toNat * 5, none⟩ = false := hfr51 0; have hf51_1 : w63.frozen? ⟨go51, (t387 : Int).toNat * 5 + 1, none⟩ = false := hfr51 1; have hf51_2 : w63.frozen? ⟨go51, (t387 : Int).toNat * 5 + 2, none⟩ = false := hfr51 2; have hf51_3 : w63.frozen? ⟨go51, (t387 : Int).toNat * 5 + 3, none⟩ = false := hfr51 3; have hf51_4 : w63.frozen? ⟨go51, (t387 : Int).toNat * 5 + 4, none⟩ = false := hfr51 4; clear hcl51 hcc51 hfr51 hM51; replace p51 := eq_true p51; replace q51 := eq_true q51; have HX65 := Aside0.mk (show Kd.R k24 24 w63 w.heap.size (fun k_ => some k_ ≠ (v383 : Value).ownBlock) (.slice (some ⟨go51, 0, none⟩) t382.length co64) t382 from z12_); obtain ⟨ce65, hcl65, hM65, hcc65, hfr65⟩ := Kd.R_elem HX65.out z24 (t387 : Int) (of_decide_eq_true z4_) z34_; obtain rfl := k24_openM hM65; have HP65 := Kd.R_seg HX65.out (t387 : Int) (of_decide_eq_true z4_) z34_ (seg := [.int .i64 a2]) (j := 1) hcl65 hcc65 (show 2 ≤ 5 from by decide) (x' := (⟨(rd_T24 t382 t387).f0, a2, (rd_T24 t382 t387).f2, (rd_T24 t382 t387).f3, (rd_T24 t382 t387).f4⟩ : S24)) (k24_mkM _ _ _ (⟨(rd_T24 t382 t387).f0, a2, (rd_T24 t382 t387).f2, (rd_T24 t382 t387).f3, (rd_T24 t382 t387).f4⟩ : S24) ) (fun _ hk => hk); have hx65_1 := hcc65 1 _ rfl; (try simp only [show (k24).sz = 5 from rfl, Nat.mul_one, Nat.add_zero] at hx65_1); have hf65_1 := hfr65 1; (try simp only [show (k24).sz = 5 from rfl, Nat.mul_one, Nat.add_zero] at hf65_1); clear hcl65 hcc65 hfr65 hM65) | ((with_reducible refine gate_store (t := 3) (p := 102) rfl ?_); (try (rw [drewN_self w63]; generalize hq_ : World.drewN w63 _ = w63; have n0_ := Aside0.mk (Kd.R_at hq_ HO384.out); have n1_ := Aside0.mk (Kd.R_at hq_ HO386.out); have n2_ := Aside0.mk (below_at hq_ HB.out); clear hq_ HO384 HO386 HB; have HO384 := n0_; have HO386 := n1_; have HB := n2_; clear n0_ n1_ n2_; (try (have HX65 := Aside0.mk (show Kd.R k24 24 w63 w.heap.size (fun k_ => some k_ ≠ (v383 : Value).ownBlock) (.slice (some ⟨go51, 0, none⟩) t382.length co64) t382 from z12_))); (try (obtain ⟨ce65, hcl65, hM65, hcc65, hfr65⟩ := Kd.R_elem HX65.out z24 (t387 : Int) (of_decide_eq_true z4_) z34_)); (try (obtain rfl := k24_openM hM65)); (try (have HP65 := Kd.R_seg HX65.out (t387 : Int) (of_decide_eq_true z4_) z34_ (seg := [.int .i64 a2]) (j := 1) hcl65 hcc65 (show 2 ≤ 5 from by decide) (x' := (⟨(rd_T24 t382 t387).f0, a2, (rd_T24 t382 t387).f2, (rd_T24 t382 t387).f3, (rd_T24 t382 t387).f4⟩ : S24)) (k24_mkM _ _ _ (⟨(rd_T24 t382 t387).f0, a2, (rd_T24 t382 t387).f2, (rd_T24 t382 t387).f3, (rd_T24 t382 t387).f4⟩ : S24) ) (fun _ hk => hk))); (try (have hx65_1 := hcc65 1 _ rfl)); (try (try simp only [show (k24).sz = 5 from rfl, Nat.mul_one, Nat.add_zero] at hx65_1)); (try (have hf65_1 := hfr65 1)); (try (try simp only [show (k24).sz = 5 from rfl, Nat.mul_one, Nat.add_zero] at hf65_1)); (try (clear hcl65 hcc65 hfr65 hM65)))); refine store_event (t := 3) (p := 102) (v := ?vo_w66) (w1 := (w63.setCell ⟨go51, (t387 : Int).toNat * 5 + 1, none⟩ (.int .i64 a2))) ?hg ?ho ?hn ?hr ?_; (case ho => rfl); (case hg => rfl); (case hn => rfl); (case hr => exact z13_); intro w66 hw; have hg : w63.grownBy w66 (some go51) := (by rw [hw]; exact HP65.2); have hp_ : Kd.R k24 24 w66 w.heap.size (fun k_ => some k_ ≠ (v383 : Value).ownBlock) (.slice (some ⟨go51, 0, none⟩) t382.length co64) y388 := (by rw [hw, Ny388.out]; exact HP65.1); clear HP65; have n0_ := Aside0.mk (Kd.R_after (v := (.slice (some ⟨go51, 0, none⟩) t382.length co64)) (v1 := (.slice (some ⟨go51, 0, none⟩) t382.length co64)) (ok := (fun _ => True)) z40_ hg (.inl rfl)); have n1_ := Aside0.mk (hp_); have n2_ := Aside0.mk ((by rw [hw]; exact below_set (HB.out) GB51.out : Below w.heap.size w w66)); clear HO384; clear HO386; clear HB; have HO384 := n0_; have HO386 := n1_; have HB := n2_; clear n0_ n1_ n2_; clear hg hw hp_; obtain ⟨Ao67, co67, eo67⟩ := Kd.R_slice HO384.out; subst eo67) | (go_at_call 47; refine calls_of_args (args' := #[.slice Ao67 t381.length co67, .slice (some ⟨go51, 0, none⟩) y388.length co64, .int .i64 a3]) z52_ ?_; (with_reducible refine (formeref10_put.calls kj20 _ _ t381 _ _ y388 a3 t389 _ ?side1 ?side2 ?side3 ?side4 A52.out).mono ?_); (case side1 => exact z38_); (case side2 => exact (Kd.R_reads' HO384.out).2.1); (case side3 => exact z17_); (case side4 => exact z44_); rintro e w68 ⟨v390, rfl, ho0, hb⟩; have n0_ := Aside0.mk (Kd.R_elder' z19_ (Kd.R_base ho0) hb); have n1_ := Aside0.mk (Kd.R_elder' z12_ (Kd.R_base ho0) hb); have n2_ := Aside0.mk (Kd.R_lower (Kd.R_new' (Kd.R_new' ho0 (Kd.R_lt z19_)) (Kd.R_lt z12_)) (below_size z1_)); have n3_ := Aside0.mk (below_step z1_ hb); clear HO384; clear HO386; clear HB; have HO384 := n0_; have HO386 := n1_; have HO391 := n2_; have HB := n3_; clear n0_ n1_ n2_ n3_; (try clear hb); (try clear hb2); (try clear hk); (try clear hi); (try clear ho0); obtain ⟨Ao69, co69, eo69⟩ := Kd.R_slice HO391.out; subst eo69) | (go_at_call 14; (with_reducible refine (formeref10_Valid.calls kj20 _ _ t389 false _ ?side1 ?side2 A53.out).mono ?_); (case side1 => exact z39_); (case side2 => exact (Kd.R_reads' HO391.out).2.1); rintro e w70 ⟨rfl, hb⟩; have n0_ := Aside0.mk (Kd.R_below z19_ hb); have n1_ := Aside0.mk (Kd.R_below z12_ hb); have n2_ := Aside0.mk (Kd.R_below z49_ hb); have n3_ := Aside0.mk (below_step z1_ hb); clear HO384; clear HO386; clear HO391; clear HB; have HO384 := n0_; have HO386 := n1_; have HO391 := n2_; have HB := n3_; clear n0_ n1_ n2_ n3_; (try clear hb); (try clear hb2); (try clear hk); (try clear hi)))
             repeat (go_quiet (first | (go_at_call 46; (with_reducible refine (formeref10_Stands.calls ((rd_T24 l0 t368).f2) ((rd_T24 l0 t369).f2) true _ A45.out).mono ?_); rintro e w' ⟨rfl, ⟨nd, rfl⟩⟩; (try first | exact ⟨rfl, _, World.drewN_drewN _ _ _⟩ | exact ⟨rfl, _, Eq.trans (World.drewN_drewN _ _ _) (congrArg (World.drewN _) (Nat.add_assoc _ _ _))⟩)) | (go_at_call 49; (with_reducible refine (formeref10_split.calls kj20 _ _ l0 a1 t381 t382 _ ?side1 ?side2 A47.out).mono ?_); (case side1 => exact z35_); (case side2 => exact HC0.out); rintro e w63 ⟨v383, v385, rfl, ho0, ho1, hb⟩; have n0_ := Aside0.mk (Kd.R_lower ho0 (below_size z1_)); have n1_ := Aside0.mk (Kd.R_lower ho1 (below_size z1_)); have n2_ := Aside0.mk (below_step z1_ hb); clear HB; have HO384 := n0_; have HO386 := n1_; have HB := n2_; clear n0_ n1_ n2_; (try clear hb); (try clear hb2); (try clear hk); (try clear hi); (try clear ho0); (try clear ho1); obtain ⟨Ao64, co64, eo64⟩ := Kd.R_slice HO386.out; subst eo64) | (go_at_call 34; (with_reducible refine (formeref10_Index.calls kj20 _ _ t382 a1 t387 _ ?side1 ?side2 A48.out).mono ?_); (case side1 => exact z17_); (case side2 => exact (Kd.R_reads' HO386.out).2.1); rintro e w' ⟨rfl, ⟨nd, rfl⟩⟩; (try first | exact ⟨rfl, _, World.drewN_drewN _ _ _⟩ | exact ⟨rfl, _, Eq.trans (World.drewN_drewN _ _ _) (congrArg (World.drewN _) (Nat.add_assoc _ _ _))⟩); have p51 : 0 ≤ (t387 : Int) := of_decide_eq_true z4_; have q51 : (t387 : Int) < ((t382.length : Int) : Int) := of_decide_eq_true z4_; obtain ⟨go51, co51, eo51, gb51, gl51, cl51, HG51⟩ := Kd.R_form HO386.out (by omega); (first | cases eo51 | (injection eo51 with ea_ en_ ec_; (first | subst ea_ | (injection ea_ with ea_; subst ea_)); subst ec_; clear en_)); have GB51 := Aside0.mk gb51; have GG51 := Aside0.mk HG51; clear gb51 gl51 HG51; obtain ⟨ce51, hcl51, hM51, hcc51, hfr51⟩ := Kd.R_elem HO386.out z24 (t387 : Int) p51 q51; obtain rfl := k24_openM hM51; have hx51_0 : w63.cell? ⟨go51, (t387 : Int).toNat * 5, none⟩ = some (.int .i64 ((rd_T24 t382 t387).f0)) := hcc51 0 _ rfl; have hx51_1 : w63.cell? ⟨go51, (t387 : Int).toNat * 5 + 1, none⟩ = some (.int .i64 ((rd_T24 t382 t387).f1)) := hcc51 1 _ rfl; have hx51_2 : w63.cell? ⟨go51, (t387 : Int).toNat * 5 + 2, none⟩ = some (.int .i64 ((rd_T24 t382 t387).f2)) := hcc51 2 _ rfl; have hx51_3 : w63.cell? ⟨go51, (t387 : Int).toNat * 5 + 3, none⟩ = some (.int .i64 ((rd_T24 t382 t387).f3)) := hcc51 3 _ rfl; have hx51_4 : w63.cell? ⟨go51, (t387 : Int).toNat * 5 + 4, none⟩ = some (.string ((rd_T24 t382 t387).f4)) := hcc51 4 _ rfl; have hf51_0 : w63.frozen? ⟨go51, (t387 : Int).toNat * 5, none⟩ = false := hfr51 0; have hf51_1 : w63.frozen? ⟨go51, (t387 : Int).toNat * 5 + 1, none⟩ = false := hfr51 1; have hf51_2 : w63.frozen? ⟨go51, (t387 : Int).toNat * 5 + 2, none⟩ = false := hfr51 2; have hf51_3 : w63.frozen? ⟨go51, (t387 : Int).toNat * 5 + 3, none⟩ = false := hfr51 3; have hf51_4 : w63.frozen? ⟨go51, (t387 : Int).toNat * 5 + 4, none⟩ = false := hfr51 4; clear hcl51 hcc51 hfr51 hM51; replace p51 := eq_true p51; replace q51 := eq_true q51; have HX65 := Aside0.mk (show Kd.R k24 24 w63 w.heap.size (fun k_ => some k_ ≠ (v383 : Value).ownBlock) (.slice (some ⟨go51, 0, none⟩) t382.length co64) t382 from z12_); obtain ⟨ce65, hcl65, hM65, hcc65, hfr65⟩ := Kd.R_elem HX65.out z24 (t387 : Int) (of_decide_eq_true z4_) z34_; obtain rfl := k24_openM hM65; have HP65 := Kd.R_seg HX65.out (t387 : Int) (of_decide_eq_true z4_) z34_ (seg := [.int .i64 a2]) (j := 1) hcl65 hcc65 (show 2 ≤ 5 from by decide) (x' := (⟨(rd_T24 t382 t387).f0, a2, (rd_T24 t382 t387).f2, (rd_T24 t382 t387).f3, (rd_T24 t382 t387).f4⟩ : S24)) (k24_mkM _ _ _ (⟨(rd_T24 t382 t387).f0, a2, (rd_T24 t382 t387).f2, (rd_T24 t382 t387).f3, (rd_T24 t382 t387).f4⟩ : S24) ) (fun _ hk => hk); have hx65_1 := hcc65 1 _ rfl; (try simp only [show (k24).sz = 5 from rfl, Nat.mul_one, Nat.add_zero] at hx65_1); have hf65_1 := hfr65 1; (try simp only [show (k24).sz = 5 from rfl, Nat.mul_one, Nat.add_zero] at hf65_1); clear hcl65 hcc65 hfr65 hM65) | ((with_reducible refine gate_store (t := 3) (p := 102) rfl ?_); (try (rw [drewN_self w63]; generalize hq_ : World.drewN w63 _ = w63; have n0_ := Aside0.mk (Kd.R_at hq_ HO384.out); have n1_ := Aside0.mk (Kd.R_at hq_ HO386.out); have n2_ := Aside0.mk (below_at hq_ HB.out); clear hq_ HO384 HO386 HB; have HO384 := n0_; have HO386 := n1_; have HB := n2_; clear n0_ n1_ n2_; (try (have HX65 := Aside0.mk (show Kd.R k24 24 w63 w.heap.size (fun k_ => some k_ ≠ (v383 : Value).ownBlock) (.slice (some ⟨go51, 0, none⟩) t382.length co64) t382 from z12_))); (try (obtain ⟨ce65, hcl65, hM65, hcc65, hfr65⟩ := Kd.R_elem HX65.out z24 (t387 : Int) (of_decide_eq_true z4_) z34_)); (try (obtain rfl := k24_openM hM65)); (try (have HP65 := Kd.R_seg HX65.out (t387 : Int) (of_decide_eq_true z4_) z34_ (seg := [.int .i64 a2]) (j := 1) hcl65 hcc65 (show 2 ≤ 5 from by decide) (x' := (⟨(rd_T24 t382 t387).f0, a2, (rd_T24 t382 t387).f2, (rd_T24 t382 t387).f3, (rd_T24 t382 t387).f4⟩ : S24)) (k24_mkM _ _ _ (⟨(rd_T24 t382 t387).f0, a2, (rd_T24 t382 t387).f2, (rd_T24 t382 t387).f3, (rd_T24 t382 t387).f4⟩ : S24) ) (fun _ hk => hk))); (try (have hx65_1 := hcc65 1 _ rfl)); (try (try simp only [show (k24).sz = 5 from rfl, Nat.mul_one, Nat.add_zero] at hx65_1)); (try (have hf65_1 := hfr65 1)); (try (try simp only [show (k24).sz = 5 from rfl, Nat.mul_one, Nat.add_zero] at hf65_1)); (try (clear hcl65 hcc65 hfr65 hM65)))); refine store_event (t := 3) (p := 102) (v := ?vo_w66) (w1 := (w63.setCell ⟨go51, (t387 : Int).toNat * 5 + 1, none⟩ (.int .i64 a2))) ?hg ?ho ?hn ?hr ?_; (case ho => rfl); (case hg => rfl); (case hn => rfl); (case hr => exact z13_); intro w66 hw; have hg : w63.grownBy w66 (some go51) := (by rw [hw]; exact HP65.2); have hp_ : Kd.R k24 24 w66 w.heap.size (fun k_ => some k_ ≠ (v383 : Value).ownBlock) (.slice (some ⟨go51, 0, none⟩) t382.length co64) y388 := (by rw [hw, Ny388.out]; exact HP65.1); clear HP65; have n0_ := Aside0.mk (Kd.R_after (v := (.slice (some ⟨go51, 0, none⟩) t382.length co64)) (v1 := (.slice (some ⟨go51, 0, none⟩) t382.length co64)) (ok := (fun _ => True)) z40_ hg (.inl rfl)); have n1_ := Aside0.mk (hp_); have n2_ := Aside0.mk ((by rw [hw]; exact below_set (HB.out) GB51.out : Below w.heap.size w w66)); clear HO384; clear HO386; clear HB; have HO384 := n0_; have HO386 := n1_; have HB := n2_; clear n0_ n1_ n2_; clear hg hw hp_; obtain ⟨Ao67, co67, eo67⟩ := Kd.R_slice HO384.out; subst eo67) | (go_at_call 47; refine calls_of_args (args' := #[.slice Ao67 t381.length co67, .slice (some ⟨go51, 0, none⟩) y388.length co64, .int .i64 a3]) z52_ ?_; (with_reducible refine (formeref10_put.calls kj20 _ _ t381 _ _ y388 a3 t389 _ ?side1 ?side2 ?side3 ?side4 A52.out).mono ?_); (case side1 => exact z38_); (case side2 => exact (Kd.R_reads' HO384.out).2.1); (case side3 => exact z17_); (case side4 => exact z44_); rintro e w68 ⟨v390, rfl, ho0, hb⟩; have n0_ := Aside0.mk (Kd.R_elder' z19_ (Kd.R_base ho0) hb); have n1_ := Aside0.mk (Kd.R_elder' z12_ (Kd.R_base ho0) hb); have n2_ := Aside0.mk (Kd.R_lower (Kd.R_new' (Kd.R_new' ho0 (Kd.R_lt z19_)) (Kd.R_lt z12_)) (below_size z1_)); have n3_ := Aside0.mk (below_step z1_ hb); clear HO384; clear HO386; clear HB; have HO384 := n0_; have HO386 := n1_; have HO391 := n2_; have HB := n3_; clear n0_ n1_ n2_ n3_; (try clear hb); (try clear hb2); (try clear hk); (try clear hi); (try clear ho0); obtain ⟨Ao69, co69, eo69⟩ := Kd.R_slice HO391.out; subst eo69) | (go_at_call 14; (with_reducible refine (formeref10_Valid.calls kj20 _ _ t389 false _ ?side1 ?side2 A53.out).mono ?_); (case side1 => exact z39_); (case side2 => exact (Kd.R_reads' HO391.out).2.1); rintro e w70 ⟨rfl, hb⟩; have n0_ := Aside0.mk (Kd.R_below z19_ hb); have n1_ := Aside0.mk (Kd.R_below z12_ hb); have n2_ := Aside0.mk (Kd.R_below z49_ hb); have n3_ := Aside0.mk (below_step z1_ hb); clear HO384; clear HO386; clear HO391; clear HB; have HO384 := n0_; have HO386 := n1_; have HO391 := n2_; have HB := n3_; clear n0_ n1_ n2_ n3_; (try clear hb); (try clear hb2); (try clear hk); (try clear hi))); try go_wp2_with (first | (go_at_call 46; (with_reducible refine (formeref10_Stands.calls ((rd_T24 l0 t368).f2) ((rd_T24 l0 t369).f2) true _ A45.out).mono ?_); rintro e w' ⟨rfl, ⟨nd, rfl⟩⟩; (try first | exact ⟨rfl, _, World.drewN_drewN _ _ _⟩ | exact ⟨rfl, _, Eq.trans (World.drewN_drewN _ _ _) (congrArg (World.drewN _) (Nat.add_assoc _ _ _))⟩)) | (go_at_call 49; (with_reducible refine (formeref10_split.calls kj20 _ _ l0 a1 t381 t382 _ ?side1 ?side2 A47.out).mono ?_); (case side1 => exact z35_); (case side2 => exact HC0.out); rintro e w63 ⟨v383, v385, rfl, ho0, ho1, hb⟩; have n0_ := Aside0.mk (Kd.R_lower ho0 (below_size z1_)); have n1_ := Aside0.mk (Kd.R_lower ho1 (below_size z1_)); have n2_ := Aside0.mk (below_step z1_ hb); clear HB; have HO384 := n0_; have HO386 := n1_; have HB := n2_; clear n0_ n1_ n2_; (try clear hb); (try clear hb2); (try clear hk); (try clear hi); (try clear ho0); (try clear ho1); obtain ⟨Ao64, co64, eo64⟩ := Kd.R_slice HO386.out; subst eo64) | (go_at_call 34; (with_reducible refine (formeref10_Index.calls kj20 _ _ t382 a1 t387 _ ?side1 ?side2 A48.out).mono ?_); (case side1 => exact z17_); (case side2 => exact (Kd.R_reads' HO386.out).2.1); rintro e w' ⟨rfl, ⟨nd, rfl⟩⟩; (try first | exact ⟨rfl, _, World.drewN_drewN _ _ _⟩ | exact ⟨rfl, _, Eq.trans (World.drewN_drewN _ _ _) (congrArg (World.drewN _) (Nat.add_assoc _ _ _))⟩); have p51 : 0 ≤ (t387 : Int) := of_decide_eq_true z4_; have q51 : (t387 : Int) < ((t382.length : Int) : Int) := of_decide_eq_true z4_; obtain ⟨go51, co51, eo51, gb51, gl51, cl51, HG51⟩ := Kd.R_form HO386.out (by omega); (first | cases eo51 | (injection eo51 with ea_ en_ ec_; (first | subst ea_ | (injection ea_ with ea_; subst ea_)); subst ec_; clear en_)); have GB51 := Aside0.mk gb51; have GG51 := Aside0.mk HG51; clear gb51 gl51 HG51; obtain ⟨ce51, hcl51, hM51, hcc51, hfr51⟩ := Kd.R_elem HO386.out z24 (t387 : Int) p51 q51; obtain rfl := k24_openM hM51; have hx51_0 : w63.cell? ⟨go51, (t387 : Int).toNat * 5, none⟩ = some (.int .i64 ((rd_T24 t382 t387).f0)) := hcc51 0 _ rfl; have hx51_1 : w63.cell? ⟨go51, (t387 : Int).toNat * 5 + 1, none⟩ = some (.int .i64 ((rd_T24 t382 t387).f1)) := hcc51 1 _ rfl; have hx51_2 : w63.cell? ⟨go51, (t387 : Int).toNat * 5 + 2, none⟩ = some (.int .i64 ((rd_T24 t382 t387).f2)) := hcc51 2 _ rfl; have hx51_3 : w63.cell? ⟨go51, (t387 : Int).toNat * 5 + 3, none⟩ = some (.int .i64 ((rd_T24 t382 t387).f3)) := hcc51 3 _ rfl; have hx51_4 : w63.cell? ⟨go51, (t387 : Int).toNat * 5 + 4, none⟩ = some (.string ((rd_T24 t382 t387).f4)) := hcc51 4 _ rfl; have hf51_0 : w63.frozen? ⟨go51, (t387 : Int).toNat * 5, none⟩ = false := hfr51 0; have hf51_1 : w63.frozen? ⟨go51, (t387 : Int).toNat * 5 + 1, none⟩ = false := hfr51 1; have hf51_2 : w63.frozen? ⟨go51, (t387 : Int).toNat * 5 + 2, none⟩ = false := hfr51 2; have hf51_3 : w63.frozen? ⟨go51, (t387 : Int).toNat * 5 + 3, none⟩ = false := hfr51 3; have hf51_4 : w63.frozen? ⟨go51, (t387 : Int).toNat * 5 + 4, none⟩ = false := hfr51 4; clear hcl51 hcc51 hfr51 hM51; replace p51 := eq_true p51; replace q51 := eq_true q51; have HX65 := Aside0.mk (show Kd.R k24 24 w63 w.heap.size (fun k_ => some k_ ≠ (v383 : Value).ownBlock) (.slice (some ⟨go51, 0, none⟩) t382.length co64) t382 from z12_); obtain ⟨ce65, hcl65, hM65, hcc65, hfr65⟩ := Kd.R_elem HX65.out z24 (t387 : Int) (of_decide_eq_true z4_) z34_; obtain rfl := k24_openM hM65; have HP65 := Kd.R_seg HX65.out (t387 : Int) (of_decide_eq_true z4_) z34_ (seg := [.int .i64 a2]) (j := 1) hcl65 hcc65 (show 2 ≤ 5 from by decide) (x' := (⟨(rd_T24 t382 t387).f0, a2, (rd_T24 t382 t387).f2, (rd_T24 t382 t387).f3, (rd_T24 t382 t387).f4⟩ : S24)) (k24_mkM _ _ _ (⟨(rd_T24 t382 t387).f0, a2, (rd_T24 t382 t387).f2, (rd_T24 t382 t387).f3, (rd_T24 t382 t387).f4⟩ : S24) ) (fun _ hk => hk); have hx65_1 := hcc65 1 _ rfl; (try simp only [show (k24).sz = 5 from rfl, Nat.mul_one, Nat.add_zero] at hx65_1); have hf65_1 := hfr65 1; (try simp only [show (k24).sz = 5 from rfl, Nat.mul_one, Nat.add_zero] at hf65_1); clear hcl65 hcc65 hfr65 hM65) | ((with_reducible refine gate_store (t := 3) (p := 102) rfl ?_); (try (rw [drewN_self w63]; generalize hq_ : World.drewN w63 _ = w63; have n0_ := Aside0.mk (Kd.R_at hq_ HO384.out); have n1_ := Aside0.mk (Kd.R_at hq_ HO386.out); have n2_ := Aside0.mk (below_at hq_ HB.out); clear hq_ HO384 HO386 HB; have HO384 := n0_; have HO386 := n1_; have HB := n2_; clear n0_ n1_ n2_; (try (have HX65 := Aside0.mk (show Kd.R k24 24 w63 w.heap.size (fun k_ => some k_ ≠ (v383 : Value).ownBlock) (.slice (some ⟨go51, 0, none⟩) t382.length co64) t382 from z12_))); (try (obtain ⟨ce65, hcl65, hM65, hcc65, hfr65⟩ := Kd.R_elem HX65.out z24 (t387 : Int) (of_decide_eq_true z4_) z34_)); (try (obtain rfl := k24_openM hM65)); (try (have HP65 := Kd.R_seg HX65.out (t387 : Int) (of_decide_eq_true z4_) z34_ (seg := [.int .i64 a2]) (j := 1) hcl65 hcc65 (show 2 ≤ 5 from by decide) (x' := (⟨(rd_T24 t382 t387).f0, a2, (rd_T24 t382 t387).f2, (rd_T24 t382 t387).f3, (rd_T24 t382 t387).f4⟩ : S24)) (k24_mkM _ _ _ (⟨(rd_T24 t382 t387).f0, a2, (rd_T24 t382 t387).f2, (rd_T24 t382 t387).f3, (rd_T24 t382 t387).f4⟩ : S24) ) (fun _ hk => hk))); (try (have hx65_1 := hcc65 1 _ rfl)); (try (try simp only [show (k24).sz = 5 from rfl, Nat.mul_one, Nat.add_zero] at hx65_1)); (try (have hf65_1 := hfr65 1)); (try (try simp only [show (k24).sz = 5 from rfl, Nat.mul_one, Nat.add_zero] at hf65_1)); (try (clear hcl65 hcc65 hfr65 hM65)))); refine store_event (t := 3) (p := 102) (v := ?vo_w66) (w1 := (w63.setCell ⟨go51, (t387 : Int).toNat * 5 + 1, none⟩ (.int .i64 a2))) ?hg ?ho ?hn ?hr ?_; (case ho => rfl); (case hg => rfl); (case hn => rfl); (case hr => exact z13_); intro w66 hw; have hg : w63.grownBy w66 (some go51) := (by rw [hw]; exact HP65.2); have hp_ : Kd.R k24 24 w66 w.heap.size (fun k_ => some k_ ≠ (v383 : Value).ownBlock) (.slice (some ⟨go51, 0, none⟩) t382.length co64) y388 := (by rw [hw, Ny388.out]; exact HP65.1); clear HP65; have n0_ := Aside0.mk (Kd.R_after (v := (.slice (some ⟨go51, 0, none⟩) t382.length co64)) (v1 := (.slice (some ⟨go51, 0, none⟩) t382.length co64)) (ok := (fun _ => True)) z40_ hg (.inl rfl)); have n1_ := Aside0.mk (hp_); have n2_ := Aside0.mk ((by rw [hw]; exact below_set (HB.out) GB51.out : Below w.heap.size w w66)); clear HO384; clear HO386; clear HB; have HO384 := n0_; have HO386 := n1_; have HB := n2_; clear n0_ n1_ n2_; clear hg hw hp_; obtain ⟨Ao67, co67, eo67⟩ := Kd.R_slice HO384.out; subst eo67) | (go_at_call 47; refine calls_of_args (args' := #[.slice Ao67 t381.length co67, .slice (some ⟨go51, 0, none⟩) y388.length co64, .int .i64 a3]) z52_ ?_; (with_reducible refine (formeref10_put.calls kj20 _ _ t381 _ _ y388 a3 t389 _ ?side1 ?side2 ?side3 ?side4 A52.out).mono ?_); (case side1 => exact z38_); (case side2 => exact (Kd.R_reads' HO384.out).2.1); (case side3 => exact z17_); (case side4 => exact z44_); rintro e w68 ⟨v390, rfl, ho0, hb⟩; have n0_ := Aside0.mk (Kd.R_elder' z19_ (Kd.R_base ho0) hb); have n1_ := Aside0.mk (Kd.R_elder' z12_ (Kd.R_base ho0) hb); have n2_ := Aside0.mk (Kd.R_lower (Kd.R_new' (Kd.R_new' ho0 (Kd.R_lt z19_)) (Kd.R_lt z12_)) (below_size z1_)); have n3_ := Aside0.mk (below_step z1_ hb); clear HO384; clear HO386; clear HB; have HO384 := n0_; have HO386 := n1_; have HO391 := n2_; have HB := n3_; clear n0_ n1_ n2_ n3_; (try clear hb); (try clear hb2); (try clear hk); (try clear hi); (try clear ho0); obtain ⟨Ao69, co69, eo69⟩ := Kd.R_slice HO391.out; subst eo69) | (go_at_call 14; (with_reducible refine (formeref10_Valid.calls kj20 _ _ t389 false _ ?side1 ?side2 A53.out).mono ?_); (case side1 => exact z39_); (case side2 => exact (Kd.R_reads' HO391.out).2.1); rintro e w70 ⟨rfl, hb⟩; have n0_ := Aside0.mk (Kd.R_below z19_ hb); have n1_ := Aside0.mk (Kd.R_below z12_ hb); have n2_ := Aside0.mk (Kd.R_below z49_ hb); have n3_ := Aside0.mk (below_step z1_ hb); clear HO384; clear HO386; clear HO391; clear HB; have HO384 := n0_; have HO386 := n1_; have HO391 := n2_; have HB := n3_; clear n0_ n1_ n2_ n3_; (try clear hb); (try clear hb2); (try clear hk); (try clear hi))))
             go_ret2
             exact ⟨_, by first | rfl | (simp [errW_none, errW_some] <;> rfl) | (simp [*, errW_none, errW_some] <;> rfl), by first | exact Kd.R_nil _ _ _ _ _ | exact Kd.N_nil _ _ _ _ _ | exact Kd.V_nil _ _ _ _ _ | exact Kd.Q_nil _ _ _ _ _ | exact Kd.S_nil _ _ _ _ _, by repeat (first | (with_reducible first | exact HB.out | apply below_alloc | apply pw_below_drewN | apply below_drew1) | exact HB.out)⟩
           ·replace c46 := Bool.eq_false_iff.mpr c46
            subst c46
            have H1 : (some (([] : List (S24)), 25)) = some (r1, r2) := by rw [if_neg (show ¬ (false = true) by decide)] at H; exact H
            clear H
            have H := H1
            clear H1
            simp only [Option.some.injEq, Prod.mk.injEq] at H
            obtain ⟨rfl, rfl⟩ := H
            have p378 : 0 ≤ (t368 : Int) := of_decide_eq_true z4_
            have q378 : t368 < (l0.length : Int) := of_decide_eq_true z4_
            obtain ⟨ad378, e378, hx378_0, hx378_1, hx378_2, hx378_3, hx378_4⟩ := at_T24 HR0.out t368 p378 q378
            cases e378
            replace hx378_0 := hbc_ HB.out hx378_0
            replace hx378_1 := hbc_ HB.out hx378_1
            replace hx378_2 := hbc_ HB.out hx378_2
            replace hx378_3 := hbc_ HB.out hx378_3
            replace hx378_4 := hbc_ HB.out hx378_4
            replace p378 := eq_true p378
            replace q378 := eq_true q378
            have p379 : 0 ≤ (t369 : Int) := of_decide_eq_true z4_
            have q379 : t369 < (l0.length : Int) := of_decide_eq_true z4_
            obtain ⟨ad379, e379, hx379_0, hx379_1, hx379_2, hx379_3, hx379_4⟩ := at_T24 HR0.out t369 p379 q379
            obtain rfl : ad378 = ad379 := (by injection e379)
            replace hx379_0 := hbc_ HB.out hx379_0
            replace hx379_1 := hbc_ HB.out hx379_1
            replace hx379_2 := hbc_ HB.out hx379_2
            replace hx379_3 := hbc_ HB.out hx379_3
            replace hx379_4 := hbc_ HB.out hx379_4
            replace p379 := eq_true p379
            replace q379 := eq_true q379
            go_wp2_with (first | (go_at_call 46; (with_reducible refine (formeref10_Stands.calls ((rd_T24 l0 t368).f2) ((rd_T24 l0 t369).f2) false _ A45.out).mono ?_); rintro e w' ⟨rfl, ⟨nd, rfl⟩⟩; (try first | exact ⟨rfl, _, World.drewN_drewN _ _ _⟩ | exact ⟨rfl, _, Eq.trans (World.drewN_drewN _ _ _) (congrArg (World.drewN _) (Nat.add_assoc _ _ _))⟩)))
            repeat (go_quiet (first | (go_at_call 46; (with_reducible refine (formeref10_Stands.calls ((rd_T24 l0 t368).f2) ((rd_T24 l0 t369).f2) false _ A45.out).mono ?_); rintro e w' ⟨rfl, ⟨nd, rfl⟩⟩; (try first | exact ⟨rfl, _, World.drewN_drewN _ _ _⟩ | exact ⟨rfl, _, Eq.trans (World.drewN_drewN _ _ _) (congrArg (World.drewN _) (Nat.add_assoc _ _ _))⟩))); try go_wp2_with (first | (go_at_call 46; (with_reducible refine (formeref10_Stands.calls ((rd_T24 l0 t368).f2) ((rd_T24 l0 t369).f2) false _ A45.out).mono ?_); rintro e w' ⟨rfl, ⟨nd, rfl⟩⟩; (try first | exact ⟨rfl, _, World.drewN_drewN _ _ _⟩ | exact ⟨rfl, _, Eq.trans (World.drewN_drewN _ _ _) (congrArg (World.drewN _) (Nat.add_assoc _ _ _))⟩))))
            go_ret2
            exact ⟨_, by first | rfl | (simp [errW_none, errW_some] <;> rfl) | (simp [*, errW_none, errW_some] <;> rfl), by first | exact Kd.R_nil _ _ _ _ _ | exact Kd.N_nil _ _ _ _ _ | exact Kd.V_nil _ _ _ _ _ | exact Kd.Q_nil _ _ _ _ _ | exact Kd.S_nil _ _ _ _ _, by repeat (first | (with_reducible first | exact HB.out | apply below_alloc | apply pw_below_drewN | apply below_drew1) | exact HB.out)⟩
          ·rw [if_neg c41] at H
           exact absurd H (by simp)
end Go.Proofs.Ytpafhhgoldenoaa.P
end
section
namespace Go.Proofs.Ytpafhhgoldenoaa.P
open Go.RowKit Go.Proofs.YtpafhhgoldenoaaW.PrintWords Go.Proofs.YtpafhhgoldenoaaW.PrintLast Go.Proofs.YtpafhhgoldenoaaW.PrintMore
open Go.Proofs.Ytpafhhgoldenoaa.XM
set_option linter.unusedVariables false
set_option linter.unusedSimpArgs false
variable {l : List S24} {ds : Nat → Int} {D : Places}
theorem kids_ev2 (l : List S24) (a : Int) (hl : l.length ≤ 4000) : Ev (fun k => tree_kids.f k l a) (kidsL l a) := by
 refine ⟨l.length + 1, fun k hk => ?_⟩
 unfold tree_kids.f
 exact kids_go l a hl l.length k [] 0 (by omega) (by omega) (by simp) (by omega)
theorem selP_le (l : List S24) (p : Nat → Bool) (i : Nat) : (selP l p i).length ≤ i := by
 have := List.length_filter_le p (List.range i)
 simpa [selP] using this
theorem ix_places (T : TreeAt l ds) (P : PAt l ds l.length D) (x : Int) : (∃ j, j < l.length ∧ (nd l j).f0 = x ∧ mlook D x = some ((j : Int), ds j) ∧ ixFind (fun n => decide (n.f0 = x)) l = (j : Int)) ∨ ((∀ j, j < l.length → (nd l j).f0 ≠ x) ∧ mlook D x = none ∧ ixFind (fun n => decide (n.f0 = x)) l = -1) := by
 rcases ixFind_cases (fun n => decide (n.f0 = x)) l with ⟨k, hk, e1, e2, e3⟩ | ⟨hn, e3⟩
 ·left
  have e : (nd l k).f0 = x := by simpa using e1
  exact ⟨k, hk, e, by rw [← e]; exact P.1 k hk, e3⟩
 ·right
  have e : ∀ j, j < l.length → (nd l j).f0 ≠ x := fun j hj => by simpa using hn j hj
  exact ⟨e, P.2 x e, e3⟩
theorem ix_at (T : TreeAt l ds) {j : Nat} (hj : j < l.length) : ixFind (fun n => decide (n.f0 = (nd l j).f0)) l = (j : Int) :=
 ixFind_at hj (by simp) (fun m hm => by simpa using T.ids m j hm hj)
def Sz (l : List S24) : Prop := ∀ j, j < l.length → (nd l j).f4.size ≤ 9223372036854775807
theorem refFind (l : List S24) (hs : Sz l) (a : Int) : Ev (fun k => formeref10_Find.f k l a) (findP l a) := by
 unfold formeref10_Find.f findP
 refine Ev.bind (refValid l hs) ?_
 cases hD : placesP l with
 | none => exact Ev.els (by simp) (Ev.now _)
 | some D =>
  obtain ⟨ds, T, P⟩ := placesP_tree hD
  refine Ev.thn rfl (Ev.obind (refID_f a) ?_)
  by_cases ha : idB a = true
  ·simp only [ha, if_true]
   refine Ev.bind (refIndex l a T.len) (Ev.const ?_)
   rcases ix_places T P a with ⟨j, hj, e, hm, hi⟩ | ⟨hn, hm, hi⟩
   ·rw [hm, hi]
    simp [mx]
    intro h; omega
   ·rw [hm, hi]
    simp [mx]
  ·simp only [ha]
   exact Ev.els (by simp) (Ev.now _)
def kidsR (l : List S24) (a : Int) : List Int × Int := if (findP l a).2.2 = 0 then (if (findP l a).2.1 = true then (kidsL l a, 0) else ([], 4)) else ([], (findP l a).2.2)
theorem find_len {a : Int} (h : (findP l a).2.2 = 0) : ∃ D ds, placesP l = some D ∧ TreeAt l ds ∧ PAt l ds l.length D ∧ idB a = true := by
 unfold findP at h
 cases hD : placesP l with
 | none => rw [hD] at h; simp at h
 | some D =>
  obtain ⟨ds, T, P⟩ := placesP_tree hD
  refine ⟨D, ds, rfl, T, P, ?_⟩
  rw [hD] at h
  by_cases ha : idB a = true
  ·exact ha
  ·simp [ha] at h
theorem Kids_ev (l : List S24) (a : Int) : Ev (fun k => tree_Kids.f k l a) (kidsR l a) := by
 unfold tree_Kids.f tree_get.f tree_Find.f kidsR
 simp only [Option.bind_some]
 by_cases h0 : (findP l a).2.2 = 0
 ·obtain ⟨D, ds, hD, T, P, _⟩ := find_len h0
  by_cases hf : (findP l a).2.1 = true
  ·simp only [h0, hf, if_true, Option.bind_some]
   exact Ev.bind (kids_ev2 l a T.len) (Ev.now _)
  ·simp only [h0, hf, if_true, if_false, Option.bind_some, Bool.false_eq_true]
   exact Ev.els (by simp) (Ev.now _)
 ·simp only [h0, if_false, Option.bind_some]
  exact Ev.now _
theorem refKids (l : List S24) (hs : Sz l) (a : Int) : Ev (fun k => formeref10_Kids.f k l a) (kidsR l a) := by
 unfold formeref10_Kids.f
 refine Ev.bind (refFind l hs a) ?_
 unfold kidsR
 by_cases h0 : (findP l a).2.2 = 0
 ·obtain ⟨D, ds, hD, T, P, _⟩ := find_len h0
  by_cases hf : (findP l a).2.1 = true
  ·simp only [h0, hf, if_true]
   exact Ev.bind (refChildren l a T.len) (Ev.now _)
  ·simp only [h0, hf, if_true, if_false, Bool.false_eq_true]
   exact Ev.now _
 ·simp only [h0, if_false]
  exact Ev.now _
theorem refWay_go (T : TreeAt l ds) : ∀ (j : Nat), j < l.length → ∀ acc : List Int, acc.length + j ≤ 10000 → Ev (fun k => formeref10_Way.l0 k l (nd l j).f0 acc) (pathP l j ++ acc) := by
 intro j
 induction j using Nat.strongRecOn with
 | ind j ih =>
  intro hj acc ha
  have hid := T.id hj
  refine Ev.up ?_
  simp only [formeref10_Way.l0, Option.bind_some]
  refine Ev.els (by omega) (Ev.thn (by simp; omega) (Ev.bind (refIndex l _ T.len) ?_))
  rw [ix_at T hj]
  refine Ev.thn (by omega) (Ev.thn (by omega) ?_)
  by_cases h0 : j = 0
  ·subst h0
   have hr : (rd_T24 l ((0 : Nat) : Int)).f1 = 0 := T.root.1
   rw [hr, path_root T]
   refine Ev.up ?_
   simp only [formeref10_Way.l0]
   exact Ev.thn trivial (Ev.now _)
  ·obtain ⟨k, hk, e, _, hp⟩ := path_step T hj (by omega)
   have e' : (rd_T24 l (j : Int)).f1 = (nd l k).f0 := e.symm
   rw [e', hp]
   have := ih k hk (by omega) ([(nd l j).f0] ++ acc) (by simp; omega)
   simpa using this
theorem refWay (T : TreeAt l ds) {j : Nat} (hj : j < l.length) : Ev (fun k => formeref10_Way.f k l (nd l j).f0) (pathP l j) := by
 have hl := T.len
 have := refWay_go T j hj [] (by simp; omega)
 simpa [formeref10_Way.f] using this
def pathR (l : List S24) (a : Int) : List Int × Int := if (findP l a).2.2 = 0 then (if (findP l a).2.1 = true then (pathP l (findP l a).1.toNat, 0) else ([], 4)) else ([], (findP l a).2.2)
theorem find_found {a : Int} (hD : placesP l = some D) (T : TreeAt l ds) (P : PAt l ds l.length D) (ha : idB a = true) (hf : (findP l a).2.1 = true) : ∃ j, j < l.length ∧ (nd l j).f0 = a ∧ (findP l a).1 = (j : Int) := by
 unfold findP at hf ⊢
 rw [hD] at hf ⊢
 simp only [ha, if_true] at hf ⊢
 rcases ix_places T P a with ⟨j, hj, e, hm, hi⟩ | ⟨hn, hm, hi⟩
 ·exact ⟨j, hj, e, by rw [hm]; rfl⟩
 ·rw [hm] at hf; simp at hf
theorem Path_r (l : List S24) (a : Int) : tree_Path.f l a = some (pathR l a) := by
 unfold tree_Path.f tree_get.f tree_Find.f pathR
 simp only [Option.bind_some]
 by_cases h0 : (findP l a).2.2 = 0
 ·obtain ⟨D, ds, hD, T, P, ha⟩ := find_len h0
  by_cases hf : (findP l a).2.1 = true
  ·obtain ⟨j, hj, e, hi⟩ := find_found hD T P ha hf
   have hl := T.len
   simp only [h0, hf, if_true, Option.bind_some, hi]
   unfold tree_path.f
   rw [if_pos (by omega)]
   simp
  ·simp [h0, hf]
 ·simp [h0]
theorem refPath (l : List S24) (hs : Sz l) (a : Int) : Ev (fun k => formeref10_Path.f k l a) (pathR l a) := by
 unfold formeref10_Path.f
 refine Ev.bind (refFind l hs a) ?_
 unfold pathR
 by_cases h0 : (findP l a).2.2 = 0
 ·obtain ⟨D, ds, hD, T, P, ha⟩ := find_len h0
  by_cases hf : (findP l a).2.1 = true
  ·obtain ⟨j, hj, e, hi⟩ := find_found hD T P ha hf
   simp only [h0, hf, if_true, hi, Int.toNat_natCast]
   rw [← e]
   exact Ev.bind (refWay T hj) (Ev.now _)
  ·simp only [h0, hf, if_true, if_false, Bool.false_eq_true]
   exact Ev.now _
 ·simp only [h0, if_false]
  exact Ev.now _
theorem refSplit_go (T : TreeAt l ds) (id : Int) : ∀ (d i : Nat), i ≤ l.length → l.length - i ≤ d →
  Ev (fun k => formeref10_split.l0 k l id (selP l (fun j => !inB l id j) i) (selP l (inB l id) i) (i : Int)) (selP l (fun j => !inB l id j) l.length, selP l (inB l id) l.length) := by
 have hl := T.len
 intro d
 induction d with
 | zero =>
  intro i hi hd
  obtain rfl : i = l.length := by omega
  refine Ev.up ?_
  simp only [formeref10_split.l0]
  exact Ev.els (by omega) (Ev.now _)
 | succ d ih =>
  intro i hi hd
  by_cases hlt : i < l.length
  ·refine Ev.up ?_
   simp only [formeref10_split.l0]
   have hp : (pathP l i).length ≤ 1000000 := by
    have := (path_all T i hlt).1
    have := T.le30 i hlt
    omega
   refine Ev.thn (by omega) (Ev.thn (by omega) (Ev.bind (refWay T hlt) (Ev.bind (refHas _ id hp) ?_)))
   have key := ih (i + 1) hlt (by omega)
   rw [selP_succ, selP_succ] at key
   rw [w64n i (by omega)]
   have s1 := selP_le l (inB l id) i
   have s2 := selP_le l (fun j => !inB l id j) i
   by_cases hb : id ∈ pathP l i
   ·refine Ev.thn (by simpa using hb) (Ev.thn (by omega) ?_)
    rw [if_neg (by simp [inB, hb]), if_pos (by simp [inB, hb])] at key
    exact key
   ·refine Ev.els (by simpa using hb) (Ev.thn (by omega) ?_)
    rw [if_pos (by simp [inB, hb]), if_neg (by simp [inB, hb])] at key
    exact key
  ·obtain rfl : i = l.length := by omega
   refine Ev.up ?_
   simp only [formeref10_split.l0]
   exact Ev.els (by omega) (Ev.now _)
theorem refSplit (T : TreeAt l ds) (id : Int) (hid : 1 ≤ id) : Ev (fun k => formeref10_split.f k l id) (splitP l id) := by
 rw [split_sel T id hid]
 simpa [formeref10_split.f, selP] using refSplit_go T id l.length 0 (by omega) (by omega)
def removeR (l : List S24) (a : Int) : List S24 × Int := if (findP l a).2.2 = 0 then (if (findP l a).2.1 = true then (if (findP l a).1 = 0 then ([], 24) else ((splitP l a).1, 0)) else ([], 4)) else ([], (findP l a).2.2)
theorem Remove_r (l : List S24) (a : Int) : tree_Remove.f l a = some (removeR l a) := by
 unfold tree_Remove.f tree_get.f tree_Find.f removeR
 simp only [Option.bind_some]
 by_cases h0 : (findP l a).2.2 = 0
 ·obtain ⟨D, ds, hD, T, P, ha⟩ := find_len h0
  by_cases hf : (findP l a).2.1 = true
  ·by_cases hi : (findP l a).1 = 0
   ·simp [h0, hf, hi]
   ·simp only [h0, hf, hi, if_true, if_false, Option.bind_some]
    unfold tree_split.f
    rw [if_pos T.len]
    simp
  ·simp [h0, hf]
 ·simp [h0]
theorem refRemove (l : List S24) (hs : Sz l) (a : Int) : Ev (fun k => formeref10_Remove.f k l a) (removeR l a) := by
 unfold formeref10_Remove.f
 refine Ev.bind (refFind l hs a) ?_
 unfold removeR
 by_cases h0 : (findP l a).2.2 = 0
 ·obtain ⟨D, ds, hD, T, P, ha⟩ := find_len h0
  by_cases hf : (findP l a).2.1 = true
  ·by_cases hi : (findP l a).1 = 0
   ·simp only [h0, hf, hi, if_true]
    exact Ev.now _
   ·simp only [h0, hf, hi, if_true, if_false]
    exact Ev.bind (refSplit T a ((idB_iff a).1 ha).1) (Ev.now _)
  ·simp only [h0, hf, if_true, if_false, Bool.false_eq_true]
   exact Ev.now _
 ·simp only [h0, if_false]
  exact Ev.now _
theorem refPut (l more : List S24) (b : Int) (r : List S24) (h1 : l.length ≤ 4000) (h2 : more.length ≤ 4000) (h : putP l more b = some r) : Ev (fun k => formeref10_put.f k l more b) r := by
 unfold putP at h
 unfold formeref10_put.f
 simp only [Option.bind_some, List.nil_append]
 by_cases hb : b = 0
 ·rw [if_pos hb] at h
  obtain rfl := Option.some.inj h
  refine Ev.thn hb (Ev.thn (by omega) (Ev.thn (by omega) (Ev.thn (by simp; omega) (Ev.thn (by simp; omega) (Ev.thn (by simp; omega) (Ev.const ?_))))))
  simp
 ·rw [if_neg hb] at h
  refine Ev.els hb (Ev.bind (refIndex l b h1) ?_)
  cases e : l.findIdx? (fun n => decide (n.f0 = b)) with
  | none => rw [e] at h; simp at h
  | some i =>
   rw [e] at h
   simp only [Option.some.injEq] at h
   subst h
   have hi : i < l.length := (List.findIdx?_eq_some_iff_getElem.1 e).1
   have hx : ixFind (fun n => decide (n.f0 = b)) l = (i : Int) := by unfold ixFind; rw [e]
   rw [hx]
   refine Ev.thn (by omega) (Ev.thn (by omega) (Ev.thn (by simp; omega) (Ev.thn (by simp; omega) (Ev.thn (by simp; omega) (Ev.const ?_)))))
   simp
end Go.Proofs.Ytpafhhgoldenoaa.P
end
section
namespace Go.Proofs.Ytpafhhgoldenoaa.P
open Go.RowKit Go.Proofs.YtpafhhgoldenoaaW.PrintWords Go.Proofs.YtpafhhgoldenoaaW.PrintLast Go.Proofs.YtpafhhgoldenoaaW.PrintMore
open Go.Proofs.Ytpafhhgoldenoaa.XM
set_option linter.unusedVariables false
set_option linter.unusedSimpArgs false
variable {l : List S24} {ds : Nat → Int} {D : Places}
theorem putP_len {l more : List S24} {b : Int} {r : List S24} (h : putP l more b = some r) : r.length = l.length + more.length := by
 unfold putP at h
 split at h
 ·obtain rfl := Option.some.inj h; simp
 ·split at h
  ·rename_i i e
   obtain rfl := Option.some.inj h
   have hi : i < l.length := (List.findIdx?_eq_some_iff_getElem.1 e).1
   simp; omega
  ·cases h
theorem putP_mem {l more : List S24} {b : Int} {r : List S24} (h : putP l more b = some r) {x : S24} (hx : x ∈ r) : x ∈ l ∨ x ∈ more := by
 unfold putP at h
 split at h
 ·obtain rfl := Option.some.inj h; simpa using hx
 ·split at h
  ·obtain rfl := Option.some.inj h
   simp only [List.mem_append] at hx
   rcases hx with (hx | hx) | hx
   ·exact .inl (List.mem_of_mem_take hx)
   ·exact .inr hx
   ·exact .inl (List.mem_of_mem_drop hx)
  ·cases h
theorem nd_mem {j : Nat} (hj : j < l.length) : nd l j ∈ l := by
 have e : nd l j = l[j] := by simp [rd_T24, hj]
 rw [e]; exact List.getElem_mem hj
theorem mem_nd {x : S24} (h : x ∈ l) : ∃ j, j < l.length ∧ nd l j = x := by
 obtain ⟨j, hj, e⟩ := List.getElem_of_mem h
 exact ⟨j, hj, by rw [← e]; simp [rd_T24, hj]⟩
theorem kid_mem {a b : Int} : b ∈ kidsL l a ↔ ∃ j, j < l.length ∧ (nd l j).f1 = a ∧ (nd l j).f0 = b := by
 unfold kidsL
 rw [List.mem_map]
 constructor
 ·rintro ⟨x, hx, e⟩
  obtain ⟨h1, h2⟩ := List.mem_filter.1 hx
  obtain ⟨j, hj, rfl⟩ := mem_nd h1
  exact ⟨j, hj, by simpa using h2, e⟩
 ·rintro ⟨j, hj, e1, e2⟩
  exact ⟨nd l j, List.mem_filter.2 ⟨nd_mem hj, by simpa using e1⟩, e2⟩
theorem put_some (l more : List S24) (b : Int) (h : b = 0 ∨ ∃ j, j < l.length ∧ (nd l j).f0 = b) : ∃ r, putP l more b = some r := by
 unfold putP
 by_cases hb : b = 0
 ·rw [if_pos hb]; exact ⟨_, rfl⟩
 ·rw [if_neg hb]
  obtain ⟨j, hj, e⟩ := h.resolve_left hb
  cases hf : l.findIdx? (fun n => decide (n.f0 = b)) with
  | some i => exact ⟨_, rfl⟩
  | none =>
   have := List.findIdx?_eq_none_iff.1 hf _ (nd_mem hj)
   simp at this
   exact absurd e this
theorem ins_j0 (l : List S24) (b a0 a1 a2 a3 : Int) (a4 : ByteArray) : Ev (fun k => formeref10_Insert.j0 k l b true a0 a1 a2 a3 a4) ([], 1) := by
 refine Ev.up ?_
 simp only [formeref10_Insert.j0]
 exact Ev.thn trivial (Ev.now _)
theorem refInsert (l : List S24) (hs : Sz l) (n : S24) (hn : n.f4.size ≤ 9223372036854775807) (b : Int) :
  ∃ v, insertP l n b = some v ∧ v.1.length ≤ 5000 ∧ Ev (fun k => formeref10_Insert.f k l n.f0 n.f1 n.f2 n.f3 n.f4 b) v := by
 have hv := refValid l hs
 have hf := refNode n hn
 unfold insertP formeref10_Insert.f
 cases hD : placesP l with
 | none =>
  rw [hD] at hv
  exact ⟨([], 1), rfl, by simp, Ev.bind hv (Ev.bind hf (Ev.els (by simp) (ins_j0 l b _ _ _ _ _)))⟩
 | some D =>
  rw [hD] at hv
  obtain ⟨ds, T, P⟩ := placesP_tree hD
  have hl := T.len
  simp only
  by_cases hb : b ≠ 0 ∧ idB b = false
  ·rw [if_pos hb]
   refine ⟨([], 1), rfl, by simp, Ev.bind hv (Ev.bind hf (Ev.thn rfl (Ev.els hb.1 (Ev.obind (refID_f b) (Ev.els (by rw [hb.2]; simp) (ins_j0 l b _ _ _ _ _))))))⟩
  rw [if_neg hb]
  have road : ∀ v, (formedB n = true → Ev (fun k => formeref10_Insert.j0 k l b (n.f1 == 0) n.f0 n.f1 n.f2 n.f3 n.f4) v) → (formedB n = false → Ev (fun k => formeref10_Insert.j0 k l b true n.f0 n.f1 n.f2 n.f3 n.f4) v) →
    Ev (fun k => (formeref10_Valid.f k l).bind fun t322 => ((formeref10_Node.f k n.f0 n.f1 n.f2 n.f3 n.f4).bind fun t323 => (if t322 = true then (if b = 0 then (if t323 = true then (formeref10_Insert.j0 k l b (n.f1 == 0) n.f0 n.f1 n.f2 n.f3 n.f4) else (formeref10_Insert.j0 k l b true n.f0 n.f1 n.f2 n.f3 n.f4)) else ((formeref10_ID.f b).bind fun t324 => (if t324 = true then (if t323 = true then (formeref10_Insert.j0 k l b (n.f1 == 0) n.f0 n.f1 n.f2 n.f3 n.f4) else (formeref10_Insert.j0 k l b true n.f0 n.f1 n.f2 n.f3 n.f4)) else (formeref10_Insert.j0 k l b true n.f0 n.f1 n.f2 n.f3 n.f4)))) else (formeref10_Insert.j0 k l b true n.f0 n.f1 n.f2 n.f3 n.f4)))) v := by
   intro v h1 h2
   refine Ev.bind hv (Ev.bind hf (Ev.thn rfl ?_))
   have inner : Ev (fun k => if formedB n = true then (formeref10_Insert.j0 k l b (n.f1 == 0) n.f0 n.f1 n.f2 n.f3 n.f4) else (formeref10_Insert.j0 k l b true n.f0 n.f1 n.f2 n.f3 n.f4)) v :=
    Ev.ite h1 (fun c => h2 (by simpa using c))
   by_cases h0 : b = 0
   ·exact Ev.thn h0 inner
   ·refine Ev.els h0 (Ev.obind (refID_f b) (Ev.thn ?_ inner))
    cases hi : idB b with
    | true => rfl
    | false => exact absurd ⟨h0, hi⟩ hb
  by_cases hfm : formedB n = false
  ·rw [if_pos hfm]
   exact ⟨([], 1), rfl, by simp, road _ (fun c => by rw [hfm] at c; cases c) (fun _ => ins_j0 l b _ _ _ _ _)⟩
  rw [if_neg hfm]
  by_cases hp0 : n.f1 = 0
  ·rw [if_pos hp0]
   exact ⟨([], 1), rfl, by simp, road _ (fun _ => by rw [show (n.f1 == 0) = true by simpa using hp0]; exact ins_j0 l b _ _ _ _ _) (fun c => absurd c hfm)⟩
  rw [if_neg hp0]
  have road2 : ∀ v, Ev (fun k => formeref10_Insert.j0 k l b false n.f0 n.f1 n.f2 n.f3 n.f4) v → _ := fun v h => road v (fun _ => by rw [show (n.f1 == 0) = false by simpa using hp0]; exact h) (fun c => absurd c hfm)
  have hI := refIndex l n.f0 hl
  rcases ix_places T P n.f0 with ⟨j, hj, e, hm, hi⟩ | ⟨hno, hm, hi⟩
  ·rw [hm]
   refine ⟨([], 5), by simp, by simp, road2 _ (Ev.up ?_)⟩
   simp only [formeref10_Insert.j0]
   refine Ev.els (by simp) (Ev.bind hI ?_)
   rw [hi]
   exact Ev.thn (by omega) (Ev.now _)
  rw [hm]
  simp only [Option.isSome_none, Bool.false_eq_true, if_false]
  have hI2 := refIndex l n.f1 hl
  rcases ix_places T P n.f1 with ⟨k, hk, e2, hm2, hi2⟩ | ⟨hno2, hm2, hi2⟩
  case inr =>
   rw [hm2]
   refine ⟨([], 4), rfl, by simp, road2 _ (Ev.up ?_)⟩
   simp only [formeref10_Insert.j0]
   refine Ev.els (by simp) (Ev.bind hI ?_)
   rw [hi]
   refine Ev.els (by omega) (Ev.bind hI2 ?_)
   rw [hi2]
   exact Ev.thn (by omega) (Ev.now _)
  rw [hm2]
  simp only
  have hkl := kidsL_len l n.f1
  have road3 : ∀ v, Ev (fun q => formeref10_Insert.j1 q l b (k : Int) (decide (b ≠ 0 ∧ b ∉ kidsL l n.f1)) n.f0 n.f1 n.f2 n.f3 n.f4) v → Ev (fun q => formeref10_Insert.j0 q l b false n.f0 n.f1 n.f2 n.f3 n.f4) v := by
   intro v h
   refine Ev.up ?_
   simp only [formeref10_Insert.j0]
   refine Ev.els (by simp) (Ev.bind hI ?_)
   rw [hi]
   refine Ev.els (by omega) (Ev.bind hI2 ?_)
   rw [hi2]
   refine Ev.els (by omega) ?_
   by_cases h0 : b = 0
   ·refine Ev.thn h0 ?_
    rw [show (decide (b ≠ 0 ∧ b ∉ kidsL l n.f1)) = false by simp [h0]] at h
    exact h
   ·refine Ev.els h0 (Ev.bind (refChildren l n.f1 hl) (Ev.bind (refHas _ b (by omega)) ?_))
    rw [show (decide (b ≠ 0 ∧ b ∉ kidsL l n.f1)) = !decide (b ∈ kidsL l n.f1) by simp [h0]] at h
    exact h
  by_cases hk2 : b ≠ 0 ∧ b ∉ kidsL l n.f1
  ·rw [if_pos hk2]
   refine ⟨([], 24), rfl, by simp, road2 _ (road3 _ (Ev.up ?_))⟩
   simp only [formeref10_Insert.j1]
   exact Ev.thn (by simpa using hk2) (Ev.now _)
  rw [if_neg hk2]
  have hkind : 1 ≤ (nd l k).f2 ∧ (nd l k).f2 ≤ 11 := ((formedB_iff _).1 (T.form k hk)).2.2.1
  have hst := refStands n.f2 (nd l k).f2 hkind.1 hkind.2
  by_cases hsb : standsB n.f2 (rd_T24 l (k : Int)).f2 = false
  ·rw [if_pos hsb]
   refine ⟨([], 25), rfl, by simp, road2 _ (road3 _ (Ev.up ?_))⟩
   simp only [formeref10_Insert.j1]
   exact Ev.els (by simpa using hk2) (Ev.thn (by omega) (Ev.thn (by omega) (Ev.obind hst (Ev.els (by rw [show standsB n.f2 (nd l k).f2 = false from hsb]; simp) (Ev.now _)))))
  rw [if_neg hsb]
  have hst2 : standsB n.f2 (nd l k).f2 = true := by simpa using hsb
  have hway := refWay T hk
  rw [e2] at hway
  have hwl := (path_all T k hk).1
  by_cases hlim : l.length = 4000 ∨ ds k = 30
  ·rw [if_pos hlim]
   refine ⟨([], 2), rfl, by simp, road2 _ (road3 _ (Ev.up ?_))⟩
   simp only [formeref10_Insert.j1]
   refine Ev.els (by simpa using hk2) (Ev.thn (by omega) (Ev.thn (by omega) (Ev.obind hst (Ev.thn hst2 ?_))))
   by_cases h4 : (l.length : Int) = 4000
   ·exact Ev.thn h4 (Ev.now _)
   ·exact Ev.els h4 (Ev.bind hway (Ev.thn (by omega) (Ev.now _)))
  rw [if_neg hlim]
  obtain ⟨r, hr⟩ := put_some l [n] b (by
   by_cases h0 : b = 0
   ·exact .inl h0
   ·right
    have : b ∈ kidsL l n.f1 := by
     by_cases c : b ∈ kidsL l n.f1
     ·exact c
     ·exact absurd ⟨h0, c⟩ hk2
    obtain ⟨j, hj, _, e⟩ := kid_mem.1 this
    exact ⟨j, hj, e⟩)
  have hrl := putP_len hr
  rw [hr]
  refine ⟨(r, 0), rfl, by simp at hrl; simp; omega, road2 _ (road3 _ (Ev.up ?_))⟩
  simp only [formeref10_Insert.j1]
  refine Ev.els (by simpa using hk2) (Ev.thn (by omega) (Ev.thn (by omega) (Ev.obind hst (Ev.thn hst2 (Ev.els (by omega) (Ev.bind hway (Ev.els (by omega) ?_)))))))
  exact Ev.bind (refPut l [n] b r hl (by simp) hr) (Ev.now _)
theorem in_before (T : TreeAt l ds) {i : Nat} (hi : i < l.length) : ∀ j, j < i → inB l (nd l i).f0 j = false := by
 intro j
 induction j using Nat.strongRecOn with
 | ind j ih =>
  intro hj
  have hne : (nd l i).f0 ≠ (nd l j).f0 := fun c => T.ids j i hj hi c.symm
  by_cases h0 : j = 0
  ·subst h0
   rw [in_root T]
   simpa using hne
  ·obtain ⟨k, hk, e, _, _⟩ := T.par j (by omega) (by omega)
   rw [in_step T (by omega) hk e, ih k hk (by omega)]
   simpa using hne
theorem sel_first (T : TreeAt l ds) {i : Nat} (hi : i < l.length) : ∃ r, selP l (inB l (nd l i).f0) l.length = nd l i :: r := by
 have step : ∀ m, i + 1 + m ≤ l.length → ∃ r, selP l (inB l (nd l i).f0) (i + 1 + m) = nd l i :: r := by
  intro m
  induction m with
  | zero =>
   intro _
   have h0 : ∀ q, q ≤ i → selP l (inB l (nd l i).f0) q = [] := by
    intro q
    induction q with
    | zero => intro _; rfl
    | succ q ih => intro hq; rw [selP_succ, if_neg (by rw [in_before T hi q hq]; simp), ih (by omega)]
   rw [Nat.add_zero, selP_succ, if_pos (in_own T hi), h0 i (Nat.le_refl _)]
   exact ⟨[], rfl⟩
  | succ m ih =>
   intro hm
   obtain ⟨r, hr⟩ := ih (by omega)
   rw [← Nat.add_assoc, selP_succ, hr]
   split
   ·exact ⟨r ++ [nd l (i + 1 + m)], rfl⟩
   ·exact ⟨r, rfl⟩
 obtain ⟨r, hr⟩ := step (l.length - (i + 1)) (by omega)
 rw [show i + 1 + (l.length - (i + 1)) = l.length by omega] at hr
 exact ⟨r, hr⟩
theorem sel_mem (p : Nat → Bool) (x : S24) : x ∈ selP l p l.length ↔ ∃ j, j < l.length ∧ p j = true ∧ nd l j = x := by
 unfold selP
 simp [and_assoc]
theorem inside_in (T : TreeAt l ds) (id : Int) {k : Nat} (hk : k < l.length) : insideB (selP l (inB l id) l.length) (nd l k).f0 = inB l id k := by
 unfold insideB
 rw [Bool.eq_iff_iff, decide_eq_true_eq]
 rcases ixFind_cases (fun n => decide (n.f0 = (nd l k).f0)) (selP l (inB l id) l.length) with ⟨q, hq, e1, e2, e3⟩ | ⟨hn, e3⟩
 ·rw [e3]
  refine ⟨fun _ => ?_, fun _ => by omega⟩
  obtain ⟨j, hj, hp, e⟩ := (sel_mem _ _).1 (nd_mem hq)
  rw [← e] at e1
  have := T.inj hj hk (by simpa using e1)
  rw [← this]; exact hp
 ·rw [e3]
  refine ⟨fun c => by omega, fun c => ?_⟩
  obtain ⟨q, hq, e⟩ := mem_nd ((sel_mem (inB l id) (nd l k)).2 ⟨k, hk, c, rfl⟩)
  have := hn q hq
  rw [e] at this
  simp at this
end Go.Proofs.Ytpafhhgoldenoaa.P
end
section
namespace Go.Proofs.Ytpafhhgoldenoaa.P
open Go.RowKit Go.Proofs.YtpafhhgoldenoaaW.PrintWords Go.Proofs.YtpafhhgoldenoaaW.PrintLast Go.Proofs.YtpafhhgoldenoaaW.PrintMore
open Go.Proofs.Ytpafhhgoldenoaa.XM
set_option linter.unusedVariables false
set_option linter.unusedSimpArgs false
variable {l : List S24} {ds : Nat → Int} {D : Places}
theorem mv_j0 (l : List S24) (id par b : Int) : Ev (fun k => formeref10_Move.j0 k l id par b true) ([], 1) := by
 refine Ev.up ?_
 simp only [formeref10_Move.j0]
 exact Ev.thn trivial (Ev.now _)
theorem mv_j2 (l : List S24) (id par b i k : Int) : Ev (fun q => formeref10_Move.j2 q l id par b i k true) ([], 24) := by
 refine Ev.up ?_
 simp only [formeref10_Move.j2]
 exact Ev.thn trivial (Ev.now _)
theorem refMove (l : List S24) (hs : Sz l) (id par b : Int) :
  ∃ v, moveP l id par b = some v ∧ v.1.length ≤ 5000 ∧ Ev (fun k => formeref10_Move.f k l id par b) v := by
 have hv := refValid l hs
 unfold moveP formeref10_Move.f
 cases hD : placesP l with
 | none =>
  rw [hD] at hv
  exact ⟨([], 1), rfl, by simp, Ev.bind hv (Ev.els (by simp) (mv_j0 l id par b))⟩
 | some D =>
  rw [hD] at hv
  obtain ⟨ds, T, P⟩ := placesP_tree hD
  have hl := T.len
  simp only
  by_cases h1 : idB id = false
  ·rw [if_pos h1]
   exact ⟨([], 1), rfl, by simp, Ev.bind hv (Ev.thn rfl (Ev.obind (refID_f id) (Ev.els (by rw [h1]; simp) (mv_j0 l id par b))))⟩
  rw [if_neg h1]
  have h1' : idB id = true := by simpa using h1
  by_cases h2 : idB par = false
  ·rw [if_pos h2]
   exact ⟨([], 1), rfl, by simp, Ev.bind hv (Ev.thn rfl (Ev.obind (refID_f id) (Ev.thn h1' (Ev.obind (refID_f par) (Ev.els (by rw [h2]; simp) (mv_j0 l id par b))))))⟩
  rw [if_neg h2]
  have h2' : idB par = true := by simpa using h2
  by_cases h3 : b ≠ 0 ∧ idB b = false
  ·rw [if_pos h3]
   exact ⟨([], 1), rfl, by simp, Ev.bind hv (Ev.thn rfl (Ev.obind (refID_f id) (Ev.thn h1' (Ev.obind (refID_f par) (Ev.thn h2' (Ev.els h3.1 (Ev.obind (refID_f b) (by rw [h3.2]; exact mv_j0 l id par b))))))))⟩
  rw [if_neg h3]
  have road : ∀ v, Ev (fun k => formeref10_Move.j0 k l id par b false) v → Ev (fun k => (formeref10_Valid.f k l).bind fun t364 => (if t364 = true then ((formeref10_ID.f id).bind fun t365 => (if t365 = true then ((formeref10_ID.f par).bind fun t366 => (if t366 = true then (if b = 0 then (formeref10_Move.j0 k l id par b false) else ((formeref10_ID.f b).bind fun t367 => (formeref10_Move.j0 k l id par b (!t367)))) else (formeref10_Move.j0 k l id par b true))) else (formeref10_Move.j0 k l id par b true))) else (formeref10_Move.j0 k l id par b true))) v := fun v h => Ev.bind hv (Ev.thn rfl (Ev.obind (refID_f id) (Ev.thn h1' (Ev.obind (refID_f par) (Ev.thn h2' (show Ev (fun k => if b = 0 then (formeref10_Move.j0 k l id par b false) else ((formeref10_ID.f b).bind fun t367 => (formeref10_Move.j0 k l id par b (!t367)))) v from by
   by_cases h0 : b = 0
   ·exact Ev.thn h0 h
   ·refine Ev.els h0 (Ev.obind (refID_f b) ?_)
    have hib : idB b = true := by
     cases hi : idB b with
     | true => rfl
     | false => exact absurd ⟨h0, hi⟩ h3
    rw [hib]
    exact h))))))
  have hI := refIndex l id hl
  have hI2 := refIndex l par hl
  rcases ix_places T P id with ⟨i, hi, e, hm, hix⟩ | ⟨hno, hm, hix⟩
  case inr =>
   rw [hm]
   refine ⟨([], 4), by cases mlook D par <;> rfl, by simp, road _ (Ev.up ?_)⟩
   simp only [formeref10_Move.j0]
   refine Ev.els (by simp) (Ev.bind hI (Ev.bind hI2 ?_))
   rw [hix]
   refine Ev.thn (by omega) (Ev.up ?_)
   simp only [formeref10_Move.j1]
   exact Ev.thn trivial (Ev.now _)
  rcases ix_places T P par with ⟨k, hk, e2, hm2, hix2⟩ | ⟨hno2, hm2, hix2⟩
  case inr =>
   rw [hm, hm2]
   refine ⟨([], 4), rfl, by simp, road _ (Ev.up ?_)⟩
   simp only [formeref10_Move.j0]
   refine Ev.els (by simp) (Ev.bind hI (Ev.bind hI2 ?_))
   rw [hix, hix2]
   refine Ev.els (by omega) (Ev.up ?_)
   simp only [formeref10_Move.j1]
   exact Ev.thn (by simp) (Ev.now _)
  rw [hm, hm2]
  simp only
  have road2 : ∀ v, Ev (fun q => formeref10_Move.j1 q l id par b (i : Int) (k : Int) false) v → Ev (fun q => formeref10_Move.j0 q l id par b false) v := by
   intro v h
   refine Ev.up ?_
   simp only [formeref10_Move.j0]
   refine Ev.els (by simp) (Ev.bind hI (Ev.bind hI2 ?_))
   rw [hix, hix2]
   refine Ev.els (by omega) ?_
   rw [show decide ((k : Int) < 0) = false by simp]
   exact h
  by_cases hi0 : (i : Int) = 0
  ·rw [if_pos hi0]
   refine ⟨([], 24), rfl, by simp, road _ (road2 _ (Ev.up ?_))⟩
   simp only [formeref10_Move.j1]
   exact Ev.els (by simp) (Ev.thn hi0 (mv_j2 _ _ _ _ _ _))
  rw [if_neg hi0]
  have hsel := split_sel T id ((idB_iff id).1 h1').1
  rw [hsel]
  simp only
  have hin : insideB (selP l (inB l id) l.length) par = inB l id k := by rw [← e2]; exact inside_in T id hk
  rw [hin]
  have hway := refWay T hk
  rw [e2] at hway
  have hwl : (pathP l k).length ≤ 1000000 := by
   have := (path_all T k hk).1
   have := T.le30 k hk
   omega
  have hhas := refHas (pathP l k) id hwl
  by_cases hib : inB l id k = true
  ·rw [if_pos hib]
   refine ⟨([], 24), rfl, by simp, road _ (road2 _ (Ev.up ?_))⟩
   simp only [formeref10_Move.j1]
   exact Ev.els (by simp) (Ev.els hi0 (Ev.bind hway (Ev.bind hhas (Ev.thn hib (mv_j2 _ _ _ _ _ _)))))
  rw [if_neg hib]
  have hib' : ¬ (decide (id ∈ pathP l k) = true) := hib
  by_cases hbi : b ≠ 0 ∧ b = id
  ·rw [if_pos hbi]
   refine ⟨([], 24), rfl, by simp, road _ (road2 _ (Ev.up ?_))⟩
   simp only [formeref10_Move.j1]
   exact Ev.els (by simp) (Ev.els hi0 (Ev.bind hway (Ev.bind hhas (Ev.els hib' (Ev.els hbi.1 (Ev.thn hbi.2 (mv_j2 _ _ _ _ _ _)))))))
  rw [if_neg hbi]
  have hkl := kidsL_len l par
  have road3 : ∀ v, Ev (fun q => formeref10_Move.j2 q l id par b (i : Int) (k : Int) (decide (b ≠ 0 ∧ b ∉ kidsL l par))) v → Ev (fun q => formeref10_Move.j1 q l id par b (i : Int) (k : Int) false) v := by
   intro v h
   refine Ev.up ?_
   simp only [formeref10_Move.j1]
   refine Ev.els (by simp) (Ev.els hi0 (Ev.bind hway (Ev.bind hhas (Ev.els hib' ?_))))
   by_cases h0 : b = 0
   ·refine Ev.thn h0 ?_
    rw [show (decide (b ≠ 0 ∧ b ∉ kidsL l par)) = false by simp [h0]] at h
    exact h
   ·refine Ev.els h0 (Ev.els (fun c => hbi ⟨h0, c⟩) (Ev.bind (refChildren l par hl) (Ev.bind (refHas _ b (by omega)) ?_)))
    rw [show (decide (b ≠ 0 ∧ b ∉ kidsL l par)) = !decide (b ∈ kidsL l par) by simp [h0]] at h
    exact h
  by_cases hkn : b ≠ 0 ∧ b ∉ kidsL l par
  ·rw [if_pos hkn]
   refine ⟨([], 24), rfl, by simp, road _ (road2 _ (road3 _ ?_))⟩
   rw [show decide (b ≠ 0 ∧ b ∉ kidsL l par) = true by simpa using hkn]
   exact mv_j2 _ _ _ _ _ _
  rw [if_neg hkn]
  have hkd : decide (b ≠ 0 ∧ b ∉ kidsL l par) = false := by simpa using hkn
  have hkind : 1 ≤ (nd l k).f2 ∧ (nd l k).f2 ≤ 11 := ((formedB_iff _).1 (T.form k hk)).2.2.1
  have hst := refStands (nd l i).f2 (nd l k).f2 hkind.1 hkind.2
  by_cases hsb : standsB (rd_T24 l (i : Int)).f2 (rd_T24 l (k : Int)).f2 = false
  ·rw [if_pos hsb]
   refine ⟨([], 25), rfl, by simp, road _ (road2 _ (road3 _ (Ev.up ?_)))⟩
   simp only [formeref10_Move.j2, hkd]
   exact Ev.els (by simp) (Ev.thn (by omega) (Ev.thn (by omega) (Ev.thn (by omega) (Ev.thn (by omega) (Ev.obind hst (Ev.els (by rw [show standsB (nd l i).f2 (nd l k).f2 = false from hsb]; simp) (Ev.now _)))))))
  rw [if_neg hsb]
  have hst2 : standsB (nd l i).f2 (nd l k).f2 = true := by simpa using hsb
  obtain ⟨tk, htk⟩ : ∃ r, selP l (inB l id) l.length = nd l i :: r := by rw [← e]; exact sel_first T hi
  have hsp := refSplit T id ((idB_iff id).1 h1').1
  rw [hsel, htk] at hsp
  rw [htk]
  simp only
  have hrestlen := selP_le l (fun j => !inB l id j) l.length
  have htklen := selP_le l (inB l id) l.length
  rw [htk] at htklen
  have hlen2 := splitP_len l id
  rw [hsel, htk] at hlen2
  simp only [List.length_cons] at hlen2
  obtain ⟨out, hout⟩ := put_some (selP l (fun j => !inB l id j) l.length) (reparent (nd l i) par :: tk) b (by
   by_cases h0 : b = 0
   ·exact .inl h0
   ·right
    have hbk : b ∈ kidsL l par := by
     by_cases c : b ∈ kidsL l par
     ·exact c
     ·exact absurd ⟨h0, c⟩ hkn
    obtain ⟨j, hj, ej, eb⟩ := kid_mem.1 hbk
    have hjpos : 0 < j := by
     rcases Nat.eq_zero_or_pos j with c | c
     ·subst c
      rw [T.root.1] at ej
      have := (idB_iff par).1 h2'
      omega
     ·exact c
    obtain ⟨m, hmj, em, _, _⟩ := T.par j hj hjpos
    obtain rfl := T.inj (j := m) (k := k) (by omega) hk (by rw [em, ej, e2])
    have hnin : inB l id j = false := by
     rw [in_step T hj hmj em, show inB l id m = false by simpa using hib]
     simp only [Bool.false_or, decide_eq_false_iff_not]
     intro c
     exact hbi ⟨h0, by rw [← eb, ← c]⟩
    obtain ⟨q, hq, eq⟩ := mem_nd ((sel_mem (l := l) (fun j => !inB l id j) (nd l j)).2 ⟨j, hj, by simp [hnin], rfl⟩)
    exact ⟨q, hq, by rw [eq, eb]⟩)
  have holen := putP_len hout
  have hsz : Sz out := by
   intro j hj
   rcases putP_mem hout (nd_mem hj) with h | h
   ·obtain ⟨m, hm, _, e⟩ := (sel_mem _ _).1 h
    rw [← e]; exact hs m hm
   ·rcases List.mem_cons.1 h with h | h
    ·rw [h]; exact hs i hi
    ·have : nd out j ∈ selP l (inB l id) l.length := by rw [htk]; exact List.mem_cons_of_mem _ h
     obtain ⟨m, hm, _, e⟩ := (sel_mem _ _).1 this
     rw [← e]; exact hs m hm
  have hvo := refValid out hsz
  rw [show reparent (rd_T24 l (i : Int)) par = reparent (nd l i) par from rfl, hout]
  simp only [Option.map_some]
  simp only [List.length_cons] at htklen holen
  have main : ∀ v, Ev (fun _ : Nat => if (placesP out).isSome = true then some (out, (0 : Int)) else some (([] : List S24), (2 : Int))) v → Ev (fun q => formeref10_Move.j2 q l id par b (i : Int) (k : Int) (decide (b ≠ 0 ∧ b ∉ kidsL l par))) v := by
   intro v h
   refine Ev.up ?_
   simp only [formeref10_Move.j2, hkd]
   refine Ev.els (by simp) (Ev.thn (by omega) (Ev.thn (by omega) (Ev.thn (by omega) (Ev.thn (by omega) (Ev.obind hst (Ev.thn hst2 (Ev.bind hsp ?_)))))))
   have hix0 : ixFind (fun n => decide (n.f0 = id)) (nd l i :: tk) = ((0 : Nat) : Int) := ixFind_at (by simp) (by simpa [rd_T24] using e) (fun m hm => by omega)
   refine Ev.bind (refIndex (nd l i :: tk) id (by simp; omega)) ?_
   rw [hix0]
   refine Ev.thn (by omega) (Ev.thn (by first | (simp; done) | (simp; omega)) ?_)
   have e0 : (nd l i :: tk).set (((0 : Nat) : Int)).toNat (⟨(rd_T24 (nd l i :: tk) ((0 : Nat) : Int)).f0, par, (rd_T24 (nd l i :: tk) ((0 : Nat) : Int)).f2, (rd_T24 (nd l i :: tk) ((0 : Nat) : Int)).f3, (rd_T24 (nd l i :: tk) ((0 : Nat) : Int)).f4⟩ : S24) = reparent (nd l i) par :: tk := rfl
   rw [e0]
   refine Ev.bind (refPut (selP l (fun j => !inB l id j) l.length) _ b out (by omega) (by simp; omega) hout) (Ev.bind hvo h)
  by_cases ho : (placesP out).isSome = true
  ·rw [if_pos ho]
   exact ⟨(out, 0), rfl, by simp; omega, road _ (road2 _ (road3 _ (main _ (Ev.thn ho (Ev.now _)))))⟩
  ·rw [if_neg ho]
   exact ⟨([], 2), rfl, by simp, road _ (road2 _ (road3 _ (main _ (Ev.els ho (Ev.now _)))))⟩
end Go.Proofs.Ytpafhhgoldenoaa.P
end

import Derived.Test.YtpafhhgoldenoaaRemoves3
/- Laws that the proof of Removes uses. -/
section
namespace Go.Proofs.Ytpafhhgoldenoaa.P
open Go.RowKit Go.Proofs.YtpafhhgoldenoaaW.PrintWords Go.Proofs.YtpafhhgoldenoaaW.PrintLast Go.Proofs.YtpafhhgoldenoaaW.PrintMore
attribute [local go_sem] max2_int min2_int max_two min_two max_three min_three max_four min_four
set_option linter.unusedVariables false
set_option linter.unusedSimpArgs false
def tree_Remove.f (l0 : List (S24)) (a1 : Int) : Option ((List (S24)) × Int) := (tree_get.f l0 a1).bind fun bt139 => (if bt139.2 = 0 then (if bt139.1 = 0 then (some (([] : List (S24)), 24)) else ((tree_split.f l0 a1).bind fun bt141 => (some (bt141.1, 0)))) else (some (([] : List (S24)), bt139.2)))
set_option maxHeartbeats 8000000 in
set_option maxRecDepth 100000 in
theorem tree_Remove.calls (A0 : Option Addr) (c0 : Nat) (l0 : List (S24)) (a1 : Int) (r1 : List (S24)) (r2 : Int) (w : World) (hr0 : Kd.C k24 w A0 l0.length l0) (hc0 : l0.length ≤ c0) (h : tree_Remove.f l0 a1 = some (r1, r2)) :
  Calls Try.prog 23 #[.slice A0 l0.length c0, .int .i64 a1] w fun e w' => ∃ v0_ : Value, e = .returned (.tuple #[v0_, .int .i64 r2]) ∧ Kd.R k24 24 w' w.heap.size (fun _ => True) v0_ r1 ∧ Below w.heap.size w w' := by
 have HR0 := Aside0.mk hr0
 have HC0 := Aside0.mk hc0
 clear hr0 hc0
 have HB := Aside0.mk (Below.refl w.heap.size w)
 have H : ((tree_get.f l0 a1).bind fun bt139 => (if bt139.2 = 0 then (if bt139.1 = 0 then (some (([] : List (S24)), 24)) else ((tree_split.f l0 a1).bind fun bt141 => (some (bt141.1, 0)))) else (some (([] : List (S24)), bt139.2)))) = some (r1, r2) := h
 clear h
 replace H := Option.bind_eq_some_iff.mp H
 obtain ⟨⟨t139, t140⟩, A30, H⟩ := H
 try dsimp only at H
 have A3 := Aside0.mk A30
 clear A30
 by_cases c4 : t140 = 0
 ·rw [if_pos c4] at H
  have c4b0 : (t140 == 0) = true := beq_iff_eq.mpr c4
  have c4b1 : (t140 != 0) = false := bne_eq_false_iff_eq.mpr c4
  clear c4
  by_cases c5 : t139 = 0
  ·rw [if_pos c5] at H
   have c5b0 : (t139 == 0) = true := beq_iff_eq.mpr c5
   have c5b1 : (t139 != 0) = false := bne_eq_false_iff_eq.mpr c5
   clear c5
   simp only [Option.some.injEq, Prod.mk.injEq] at H
   obtain ⟨rfl, rfl⟩ := H
   go_enter Try.func23, Try.ntmps23
   go_wp2_with (first | ((with_reducible refine gate_callee (f := 37) rfl ?_); refine goesL_ (some 13) rfl rfl Try.func37 (by kernel_rfl) rfl #[.slice A0 l0.length c0, .int .i64 a1] rfl (by (try simp only [List.map_toArray, List.map_cons, List.map_nil]); first | done | rfl | (simp only [List.length_drop, List.length_take]; rfl)) ?_; (with_reducible refine (tree_get.calls _ _ l0 a1 t139 t140 _ ?side1 ?side2 A3.out).mono ?_); (case side1 => repeat (first | exact HR0.out | (with_reducible refine Kd.C_alloc ?_ _) | (with_reducible refine Kd.C_drewN ?_ _) | (with_reducible refine Kd.C_drew ?_))); (case side2 => exact HC0.out); rintro e w6 ⟨rfl, hb⟩; refine ⟨_, rfl, ?_⟩; have n0_ := Aside0.mk (below_step (by repeat (first | (with_reducible first | exact HB.out | apply below_alloc | apply pw_below_drewN | apply below_drew1) | exact HB.out)) hb); clear HB; have HB := n0_; clear n0_; (try clear hb); (try clear hb2); (try clear hk); (try clear hi)))
   go_ret2
   exact ⟨_, by first | rfl | (simp [errW_none, errW_some] <;> rfl) | (simp [*, errW_none, errW_some] <;> rfl), by first | exact Kd.R_nil _ _ _ _ _ | exact Kd.N_nil _ _ _ _ _ | exact Kd.V_nil _ _ _ _ _ | exact Kd.Q_nil _ _ _ _ _ | exact Kd.S_nil _ _ _ _ _, by repeat (first | (with_reducible first | exact HB.out | apply below_alloc | apply pw_below_drewN | apply below_drew1) | exact HB.out)⟩
  ·rw [if_neg c5] at H
   have c5b0 : (t139 == 0) = false := beq_eq_false_iff_ne.mpr c5
   have c5b1 : (t139 != 0) = true := bne_iff_ne.mpr c5
   replace H := Option.bind_eq_some_iff.mp H
   obtain ⟨⟨t141, t142⟩, A70, H⟩ := H
   try dsimp only at H
   have A7 := Aside0.mk A70
   clear A70
   simp only [Option.some.injEq, Prod.mk.injEq] at H
   obtain ⟨rfl, rfl⟩ := H
   go_enter Try.func23, Try.ntmps23
   go_wp2_with (first | ((with_reducible refine gate_callee (f := 37) rfl ?_); refine goesL_ (some 13) rfl rfl Try.func37 (by kernel_rfl) rfl #[.slice A0 l0.length c0, .int .i64 a1] rfl (by (try simp only [List.map_toArray, List.map_cons, List.map_nil]); first | done | rfl | (simp only [List.length_drop, List.length_take]; rfl)) ?_; (with_reducible refine (tree_get.calls _ _ l0 a1 t139 t140 _ ?side1 ?side2 A3.out).mono ?_); (case side1 => repeat (first | exact HR0.out | (with_reducible refine Kd.C_alloc ?_ _) | (with_reducible refine Kd.C_drewN ?_ _) | (with_reducible refine Kd.C_drew ?_))); (case side2 => exact HC0.out); rintro e w8 ⟨rfl, hb⟩; refine ⟨_, rfl, ?_⟩; have n0_ := Aside0.mk (below_step (by repeat (first | (with_reducible first | exact HB.out | apply below_alloc | apply pw_below_drewN | apply below_drew1) | exact HB.out)) hb); clear HB; have HB := n0_; clear n0_; (try clear hb); (try clear hb2); (try clear hk); (try clear hi)) | ((with_reducible refine gate_callee (f := 48) rfl ?_); refine goesL_ (some 26) rfl rfl Try.func48 (by kernel_rfl) rfl #[.slice A0 l0.length c0, .int .i64 a1] rfl (by (try simp only [List.map_toArray, List.map_cons, List.map_nil]); first | done | rfl | (simp only [List.length_drop, List.length_take]; rfl)) ?_; (with_reducible refine (tree_split.calls _ _ l0 a1 t141 t142 _ ?side1 ?side2 A7.out).mono ?_); (case side1 => repeat (first | exact (Kd.C_below HR0.out HB.out) | (with_reducible refine Kd.C_alloc ?_ _) | (with_reducible refine Kd.C_drewN ?_ _) | (with_reducible refine Kd.C_drew ?_))); (case side2 => exact HC0.out); rintro e w9 ⟨v143, v145, rfl, ho0, ho1, hb⟩; refine ⟨_, rfl, ?_⟩; have n0_ := Aside0.mk (Kd.R_lower ho0 (below_size (by repeat (first | (with_reducible first | exact HB.out | apply below_alloc | apply pw_below_drewN | apply below_drew1) | exact HB.out)))); have n1_ := Aside0.mk (Kd.R_lower ho1 (below_size (by repeat (first | (with_reducible first | exact HB.out | apply below_alloc | apply pw_below_drewN | apply below_drew1) | exact HB.out)))); have n2_ := Aside0.mk (below_step (by repeat (first | (with_reducible first | exact HB.out | apply below_alloc | apply pw_below_drewN | apply below_drew1) | exact HB.out)) hb); clear HB; have HO144 := n0_; have HO146 := n1_; have HB := n2_; clear n0_ n1_ n2_; (try clear hb); (try clear hb2); (try clear hk); (try clear hi); (try clear ho0); (try clear ho1)))
   go_ret2
   exact ⟨_, by first | rfl | (simp [errW_none, errW_some] <;> rfl) | (simp [*, errW_none, errW_some] <;> rfl), by (with_reducible repeat (first | apply Kd.R_alloc | apply Kd.R_drewN | apply Kd.R_drew)); exact Kd.R_mono HO144.out (fun _ hk => trivial), by repeat (first | (with_reducible first | exact HB.out | apply below_alloc | apply pw_below_drewN | apply below_drew1) | exact HB.out)⟩
 ·rw [if_neg c4] at H
  have c4b0 : (t140 == 0) = false := beq_eq_false_iff_ne.mpr c4
  have c4b1 : (t140 != 0) = true := bne_iff_ne.mpr c4
  simp only [Option.some.injEq, Prod.mk.injEq] at H
  obtain ⟨rfl, rfl⟩ := H
  go_enter Try.func23, Try.ntmps23
  go_wp2_with (first | ((with_reducible refine gate_callee (f := 37) rfl ?_); refine goesL_ (some 13) rfl rfl Try.func37 (by kernel_rfl) rfl #[.slice A0 l0.length c0, .int .i64 a1] rfl (by (try simp only [List.map_toArray, List.map_cons, List.map_nil]); first | done | rfl | (simp only [List.length_drop, List.length_take]; rfl)) ?_; (with_reducible refine (tree_get.calls _ _ l0 a1 t139 t140 _ ?side1 ?side2 A3.out).mono ?_); (case side1 => repeat (first | exact HR0.out | (with_reducible refine Kd.C_alloc ?_ _) | (with_reducible refine Kd.C_drewN ?_ _) | (with_reducible refine Kd.C_drew ?_))); (case side2 => exact HC0.out); rintro e w10 ⟨rfl, hb⟩; refine ⟨_, rfl, ?_⟩; have n0_ := Aside0.mk (below_step (by repeat (first | (with_reducible first | exact HB.out | apply below_alloc | apply pw_below_drewN | apply below_drew1) | exact HB.out)) hb); clear HB; have HB := n0_; clear n0_; (try clear hb); (try clear hb2); (try clear hk); (try clear hi)))
  go_ret2
  exact ⟨_, by first | rfl | (simp [errW_none, errW_some] <;> rfl) | (simp [*, errW_none, errW_some] <;> rfl), by first | exact Kd.R_nil _ _ _ _ _ | exact Kd.N_nil _ _ _ _ _ | exact Kd.V_nil _ _ _ _ _ | exact Kd.Q_nil _ _ _ _ _ | exact Kd.S_nil _ _ _ _ _, by repeat (first | (with_reducible first | exact HB.out | apply below_alloc | apply pw_below_drewN | apply below_drew1) | exact HB.out)⟩
end Go.Proofs.Ytpafhhgoldenoaa.P
end
section
namespace Go.Proofs.Ytpafhhgoldenoaa.P
open Go.RowKit Go.Proofs.YtpafhhgoldenoaaW.PrintWords Go.Proofs.YtpafhhgoldenoaaW.PrintLast Go.Proofs.YtpafhhgoldenoaaW.PrintMore
attribute [local go_sem] max2_int min2_int max_two min_two max_three min_three max_four min_four
set_option linter.unusedVariables false
set_option linter.unusedSimpArgs false
def formelaw10_example.f  : Option ((List (S24))) := some (([(⟨1, 0, 1, 0, (⟨#[]⟩ : ByteArray)⟩ : S24), (⟨2, 1, 1, 0, (⟨#[]⟩ : ByteArray)⟩ : S24), (⟨3, 2, 2, 0, (⟨#[97]⟩ : ByteArray)⟩ : S24), (⟨4, 1, 2, 0, (⟨#[]⟩ : ByteArray)⟩ : S24)] : List (S24)))
set_option maxHeartbeats 8000000 in
set_option maxRecDepth 100000 in
theorem formelaw10_example.calls  (r : List (S24)) (w : World) (h : formelaw10_example.f  = some r) :
  Calls Try.prog 30 #[] w fun e w' => ∃ v0_ : Value, e = .returned (v0_) ∧ Kd.R k24 24 w' w.heap.size (fun _ => True) v0_ r ∧ Below w.heap.size w w' := by
 have hu24 := Try.underlying24
 have HB := Aside0.mk (Below.refl w.heap.size w)
 have H : (some (([(⟨1, 0, 1, 0, (⟨#[]⟩ : ByteArray)⟩ : S24), (⟨2, 1, 1, 0, (⟨#[]⟩ : ByteArray)⟩ : S24), (⟨3, 2, 2, 0, (⟨#[97]⟩ : ByteArray)⟩ : S24), (⟨4, 1, 2, 0, (⟨#[]⟩ : ByteArray)⟩ : S24)] : List (S24)))) = some r := h
 clear h
 obtain ⟨y147, hy147⟩ : ∃ y_ : List (S24), y_ = (([(⟨1, 0, 1, 0, (⟨#[]⟩ : ByteArray)⟩ : S24), (⟨2, 1, 1, 0, (⟨#[]⟩ : ByteArray)⟩ : S24), (⟨3, 2, 2, 0, (⟨#[97]⟩ : ByteArray)⟩ : S24), (⟨4, 1, 2, 0, (⟨#[]⟩ : ByteArray)⟩ : S24)] : List (S24))) := ⟨_, rfl⟩
 replace H : (some y147) = some r := by first | (rw [hy147]; with_reducible exact H) | (have H2_ := (Option.bind_some _ _).symm.trans H; rw [hy147]; with_reducible exact H2_) | (have H2_ := (Option.bind_some _ _).symm.trans H; with_reducible exact H2_) | with_reducible exact H | (rw [hy147]; exact H) | exact H
 have Ny147 := Aside0.mk hy147
 clear hy147
 obtain rfl := Option.some.inj H
 go_enter Try.func30, Try.ntmps30
 go_wp2_with (first | ((with_reducible refine gate_dst (N := 5) rfl ?_); refine Kd.R_lit k24 _ 24 ?hg (N := 5) ?hd (xs := ([(⟨1, 0, 1, 0, (⟨#[]⟩ : ByteArray)⟩ : S24), (⟨2, 1, 1, 0, (⟨#[]⟩ : ByteArray)⟩ : S24), (⟨3, 2, 2, 0, (⟨#[97]⟩ : ByteArray)⟩ : S24), (⟨4, 1, 2, 0, (⟨#[]⟩ : ByteArray)⟩ : S24)] : List (S24))) (inner := [.int .i64 1, .int .i64 0, .int .i64 1, .int .i64 0, .string (⟨#[]⟩ : ByteArray), .int .i64 2, .int .i64 1, .int .i64 1, .int .i64 0, .string (⟨#[]⟩ : ByteArray), .int .i64 3, .int .i64 2, .int .i64 2, .int .i64 0, .string (⟨#[97]⟩ : ByteArray), .int .i64 4, .int .i64 1, .int .i64 2, .int .i64 0, .string (⟨#[]⟩ : ByteArray)]) (ok := fun _ => True) (okp := fun _ => True) ?hr ?hp (fun _ hk => hk) trivial (Below.refl _ _) (Nat.le_refl _) (by simp) ?_; (case hd => rfl); (case hg => rfl); (case hr => first | (go_simp; done) | (go_simp; rfl)); (case hp => exact (Reps.c5 (show Kd.M k24 _ _ _ (⟨1, 0, 1, 0, (⟨#[]⟩ : ByteArray)⟩ : S24) [.int .i64 1, .int .i64 0, .int .i64 1, .int .i64 0, .string (⟨#[]⟩ : ByteArray)] from (k24_mkM _ _ _ (⟨1, 0, 1, 0, (⟨#[]⟩ : ByteArray)⟩ : S24) )) (Reps.c5 (show Kd.M k24 _ _ _ (⟨2, 1, 1, 0, (⟨#[]⟩ : ByteArray)⟩ : S24) [.int .i64 2, .int .i64 1, .int .i64 1, .int .i64 0, .string (⟨#[]⟩ : ByteArray)] from (k24_mkM _ _ _ (⟨2, 1, 1, 0, (⟨#[]⟩ : ByteArray)⟩ : S24) )) (Reps.c5 (show Kd.M k24 _ _ _ (⟨3, 2, 2, 0, (⟨#[97]⟩ : ByteArray)⟩ : S24) [.int .i64 3, .int .i64 2, .int .i64 2, .int .i64 0, .string (⟨#[97]⟩ : ByteArray)] from (k24_mkM _ _ _ (⟨3, 2, 2, 0, (⟨#[97]⟩ : ByteArray)⟩ : S24) )) (Reps.c5 (show Kd.M k24 _ _ _ (⟨4, 1, 2, 0, (⟨#[]⟩ : ByteArray)⟩ : S24) [.int .i64 4, .int .i64 1, .int .i64 2, .int .i64 0, .string (⟨#[]⟩ : ByteArray)] from (k24_mkM _ _ _ (⟨4, 1, 2, 0, (⟨#[]⟩ : ByteArray)⟩ : S24) )) (Reps.none _ _)))))); intro v148 w1 ho2 hb hg_ hnew_; clear hg_ hnew_; (first | rw [← Ny147.out] at ho2 | (simp only [Int.reduceToNat] at ho2; rw [← Ny147.out] at ho2)); have n0_ := Aside0.mk (Kd.R_lower ho2 (below_size (by repeat (first | (with_reducible first | exact HB.out | apply below_alloc | apply pw_below_drewN | apply below_drew1) | exact HB.out)))); have n1_ := Aside0.mk (below_step (by repeat (first | (with_reducible first | exact HB.out | apply below_alloc | apply pw_below_drewN | apply below_drew1) | exact HB.out)) hb); clear HB; have HO149 := n0_; have HB := n1_; clear n0_ n1_; clear hb ho2))
 go_ret
 exact ⟨_, by first | rfl | (simp [errW_none, errW_some] <;> rfl) | (simp [*, errW_none, errW_some] <;> rfl), by (with_reducible repeat (first | apply Kd.R_alloc | apply Kd.R_drewN | apply Kd.R_drew)); exact HO149.out, by repeat (first | (with_reducible first | exact HB.out | apply below_alloc | apply pw_below_drewN | apply below_drew1) | exact HB.out)⟩
end Go.Proofs.Ytpafhhgoldenoaa.P
end
section
namespace Go.Proofs.Ytpafhhgoldenoaa.P
open Go.RowKit Go.Proofs.YtpafhhgoldenoaaW.PrintWords Go.Proofs.YtpafhhgoldenoaaW.PrintLast Go.Proofs.YtpafhhgoldenoaaW.PrintMore
open Go.Proofs.Ytpafhhgoldenoaa.XM
set_option linter.unusedVariables false
set_option linter.unusedSimpArgs false
attribute [local go_sem] encP
theorem C_one (W : World) (n : S24) : Kd.C k24 (W.alloc (.cells #[.int .i64 n.f0, .int .i64 n.f1, .int .i64 n.f2, .int .i64 n.f3, .string n.f4] 24)) (some ⟨W.heap.size, 0, none⟩) [n].length [n] := by
 have hb := heap_alloc_new W (.cells #[.int .i64 n.f0, .int .i64 n.f1, .int .i64 n.f2, .int .i64 n.f3, .string n.f4] 24)
 refine ⟨rfl, by simp, fun _ => ⟨_, rfl, fun j p hj => ?_⟩⟩
 cases j with
 | zero =>
  obtain rfl : n = p := by simpa using hj
  refine ⟨[.int .i64 n.f0, .int .i64 n.f1, .int .i64 n.f2, .int .i64 n.f3, .string n.f4], rfl, k24_mk _ n, fun i u hu => ?_⟩
  rw [Nat.zero_mul, Nat.zero_add, add_plain]
  have h2 := blk_cell hb i
  rw [h2]
  simpa using hu
 | succ j => simp at hj
def insert_r.T12 : Bool × List (List Nat × List Nat) := (true, [([], []), ([0], [0]), ([], []), ([], []), ([3], [3]), ([2, 4], [2, 4]), ([5], [5]), ([6], [6]), ([1, 7], [1, 7]), ([8], [8]), ([9, 8], [9])])
def insert_r.B12 : List Nat := [0, 1, 0, 0, 8, 28, 60, 124, 255, 511, 1023]
theorem insert_r.tab12 : rtab .any (opsOf Try.f20 12) = insert_r.T12 := by kernel_rfl
theorem insert_r.bits12 : waitsOk insert_r.T12.2 insert_r.B12 = true := by kernel_rfl
set_option maxHeartbeats 8000000 in
set_option maxRecDepth 100000 in
theorem insert_calls (A0 : Option Addr) (c0 : Nat) (l0 : List S24) (n : S24) (b : Int) (r1 : List S24) (r2 : Int) (w : World) (hr0 : Kd.C k24 w A0 l0.length l0) (hc0 : l0.length ≤ c0) (h : insertP l0 n b = some (r1, r2)) :
  Calls Try.prog 20 #[.slice A0 l0.length c0, .agg #[.int .i64 n.f0, .int .i64 n.f1, .int .i64 n.f2, .int .i64 n.f3, .string n.f4], .int .i64 b] w fun e w' => ∃ v0_ : Value, e = .returned (.tuple #[v0_, .int .i64 r2]) ∧ Kd.R k24 24 w' w.heap.size (fun _ => True) v0_ r1 ∧ Below w.heap.size w w' := by
 have hu24 := Try.underlying24
 have hu51 := Try.underlying51
 have HR := Aside0.mk hr0
 have HC0 := Aside0.mk hc0
 have HP := Aside0.mk h
 clear hr0 h
 have HB := Aside0.mk (below_alloc (Below.refl w.heap.size w) (.cells #[.int .i64 n.f0, .int .i64 n.f1, .int .i64 n.f2, .int .i64 n.f3, .string n.f4] 24))
 have HN := Aside0.mk (heap_alloc_new w (.cells #[.int .i64 n.f0, .int .i64 n.f1, .int .i64 n.f2, .int .i64 n.f3, .string n.f4] 24))
 go_enter Try.func20, Try.ntmps20
 go_wp2_with fail
 refine (places_calls A0 c0 l0 _ (Kd.C_alloc HR.out _) hc0).mono ?_
 rintro e w1 ⟨hb, hp⟩
 have HB1 := Aside0.mk (HB.out.trans (hb.mono HB.out.size))
 have HN1 := Aside0.mk ((hb.block w.heap.size (blk_lt HN.out)).trans HN.out)
 clear HB HN hb
 have HB := HB1
 have HN := HN1
 clear HB1 HN1
 obtain ⟨g, hg⟩ : ∃ g, g = w.heap.size := ⟨_, rfl⟩
 have HG := Aside0.mk hg
 simp only [← hg] at HN ⊢
 clear hg
 have y0 : w1.cell? ⟨g, 0, none⟩ = some (.int .i64 n.f0) := blk_cell HN.out 0
 have y1 : w1.cell? ⟨g, 1, none⟩ = some (.int .i64 n.f1) := blk_cell HN.out 1
 have y2 : w1.cell? ⟨g, 2, none⟩ = some (.int .i64 n.f2) := blk_cell HN.out 2
 have y3 : w1.cell? ⟨g, 3, none⟩ = some (.int .i64 n.f3) := blk_cell HN.out 3
 have y4 : w1.cell? ⟨g, 4, none⟩ = some (.string n.f4) := blk_cell HN.out 4
 have hlt : g < w1.heap.size := blk_lt HN.out
 have hne : g ≠ w1.heap.size := Nat.ne_of_lt hlt
 cases hD : placesP l0 with
 | none =>
  rw [hD] at hp
  obtain rfl := hp
  have H2 := HP.out
  unfold insertP at H2
  rw [hD] at H2
  obtain ⟨rfl, rfl⟩ : [] = r1 ∧ (1 : Int) = r2 := by simpa using H2
  clear H2 HP hD
  go_wp2
  go_ret2
  exact ⟨_, rfl, Kd.R_nil _ _ _ _ _, HB.out⟩
 | some D =>
  rw [hD] at hp
  obtain ⟨bm, rfl, hM⟩ := hp
  have HM := Aside0.mk hM
  have HD := Aside0.mk hD
  obtain ⟨_, hl4, _, _, _, hinv⟩ := placesP_some hD
  have HI := Aside0.mk hinv
  have HL := Aside0.mk hl4
  clear hM hD hinv hl4
  by_cases hbz : b = 0
  ·have hbzb : (b != 0) = false := by simpa using hbz
   have Hbz := Aside0.mk hbz
   clear hbz
   have hbz := Hbz.out
   by_cases hf : formedB n = true
   ·have hff : Aside0 (tree_formed.f n.f0 n.f1 n.f2 n.f3 n.f4 = some true) := ⟨by rw [formed_f, hf]⟩
    have Hf := Aside0.mk hf
    clear hf
    by_cases hp0 : n.f1 = 0
    ·have hp0b : (n.f1 == 0) = true := by simpa using hp0
     have H2 := HP.out
     unfold insertP at H2
     rw [HD.out] at H2
     simp [hbz, Hf.out, hp0] at H2
     obtain ⟨rfl, rfl⟩ := H2
     clear hp0 HP
     go_wp2_with (first | (go_at_call 42; (with_reducible refine (tree_formed.calls n.f0 n.f1 n.f2 n.f3 n.f4 true _ hff.out).mono ?_); rintro e w3 ⟨rfl, hb3⟩; have HBn := Aside0.mk (HB.out.trans (hb3.mono HB.out.size)); have HMn := Aside0.mk (HM.out.below hb3); have HNn := Aside0.mk ((hb3.block g (blk_lt HN.out)).trans HN.out); clear HB HM HN y0 y1 y2 y3 y4 hlt hne; have HB := HBn; have HM := HMn; have HN := HNn; clear HBn HMn HNn; have y0 : w3.cell? ⟨g, 0, none⟩ = some (.int .i64 n.f0) := blk_cell HN.out 0; have y1 : w3.cell? ⟨g, 1, none⟩ = some (.int .i64 n.f1) := blk_cell HN.out 1; have y2 : w3.cell? ⟨g, 2, none⟩ = some (.int .i64 n.f2) := blk_cell HN.out 2; have y3 : w3.cell? ⟨g, 3, none⟩ = some (.int .i64 n.f3) := blk_cell HN.out 3; have y4 : w3.cell? ⟨g, 4, none⟩ = some (.string n.f4) := blk_cell HN.out 4; have hlt : g < w3.heap.size := blk_lt HN.out; have hne : g ≠ w3.heap.size := Nat.ne_of_lt hlt; clear hb3))
     go_ret2
     exact ⟨_, rfl, Kd.R_nil _ _ _ _ _, HB.out⟩
    ·have hp0b : (n.f1 == 0) = false := by simpa using hp0
     have Hp0 := Aside0.mk hp0
     clear hp0
     cases hm0 : mlook D n.f0 with
     | some v0 =>
      have hv0 : Aside0 (((mlook D n.f0).map encP).getD (.agg #[.int .i64 0, .int .i64 0]) = .agg #[.int .i64 v0.1, .int .i64 v0.2]) := ⟨by rw [hm0]; rfl⟩
      have hb0 : Aside0 ((mlook D n.f0).isSome = true) := ⟨by rw [hm0]; rfl⟩
      have H2 := HP.out
      unfold insertP at H2
      rw [HD.out] at H2
      simp [hbz, Hf.out, Hp0.out, hm0] at H2
      obtain ⟨rfl, rfl⟩ := H2
      clear hm0 HP
      go_wp2_with (first | (go_at_call 42; (with_reducible refine (tree_formed.calls n.f0 n.f1 n.f2 n.f3 n.f4 true _ hff.out).mono ?_); rintro e w3 ⟨rfl, hb3⟩; have HBn := Aside0.mk (HB.out.trans (hb3.mono HB.out.size)); have HMn := Aside0.mk (HM.out.below hb3); have HNn := Aside0.mk ((hb3.block g (blk_lt HN.out)).trans HN.out); clear HB HM HN y0 y1 y2 y3 y4 hlt hne; have HB := HBn; have HM := HMn; have HN := HNn; clear HBn HMn HNn; have y0 : w3.cell? ⟨g, 0, none⟩ = some (.int .i64 n.f0) := blk_cell HN.out 0; have y1 : w3.cell? ⟨g, 1, none⟩ = some (.int .i64 n.f1) := blk_cell HN.out 1; have y2 : w3.cell? ⟨g, 2, none⟩ = some (.int .i64 n.f2) := blk_cell HN.out 2; have y3 : w3.cell? ⟨g, 3, none⟩ = some (.int .i64 n.f3) := blk_cell HN.out 3; have y4 : w3.cell? ⟨g, 4, none⟩ = some (.string n.f4) := blk_cell HN.out 4; have hlt : g < w3.heap.size := blk_lt HN.out; have hne : g ≠ w3.heap.size := Nat.ne_of_lt hlt; clear hb3) | (at_lookup; refine wpList_lookup_ok _ rfl _ _ 46 rfl 3 51 (KeyOK.int .i64) Try.underlying46 Try.underlying3 (zero51 _) rfl HM.out n.f0 rfl _ hv0.out _ hb0.out ?_))
      go_ret2
      exact ⟨_, rfl, Kd.R_nil _ _ _ _ _, below_alloc HB.out _⟩
     | none =>
      have hv0 : Aside0 (((mlook D n.f0).map encP).getD (.agg #[.int .i64 0, .int .i64 0]) = .agg #[.int .i64 0, .int .i64 0]) := ⟨by rw [hm0]; rfl⟩
      have hb0 : Aside0 ((mlook D n.f0).isSome = false) := ⟨by rw [hm0]; rfl⟩
      have Hm0 := Aside0.mk hm0
      clear hm0
      cases hm1 : mlook D n.f1 with
      | none =>
       have hv1 : Aside0 (((mlook D n.f1).map encP).getD (.agg #[.int .i64 0, .int .i64 0]) = .agg #[.int .i64 0, .int .i64 0]) := ⟨by rw [hm1]; rfl⟩
       have hb1 : Aside0 ((mlook D n.f1).isSome = false) := ⟨by rw [hm1]; rfl⟩
       have H2 := HP.out
       unfold insertP at H2
       rw [HD.out] at H2
       simp [hbz, Hf.out, Hp0.out, Hm0.out, hm1] at H2
       obtain ⟨rfl, rfl⟩ := H2
       clear hm1 HP
       go_wp2_with (first | (go_at_call 42; (with_reducible refine (tree_formed.calls n.f0 n.f1 n.f2 n.f3 n.f4 true _ hff.out).mono ?_); rintro e w3 ⟨rfl, hb3⟩; have HBn := Aside0.mk (HB.out.trans (hb3.mono HB.out.size)); have HMn := Aside0.mk (HM.out.below hb3); have HNn := Aside0.mk ((hb3.block g (blk_lt HN.out)).trans HN.out); clear HB HM HN y0 y1 y2 y3 y4 hlt hne; have HB := HBn; have HM := HMn; have HN := HNn; clear HBn HMn HNn; have y0 : w3.cell? ⟨g, 0, none⟩ = some (.int .i64 n.f0) := blk_cell HN.out 0; have y1 : w3.cell? ⟨g, 1, none⟩ = some (.int .i64 n.f1) := blk_cell HN.out 1; have y2 : w3.cell? ⟨g, 2, none⟩ = some (.int .i64 n.f2) := blk_cell HN.out 2; have y3 : w3.cell? ⟨g, 3, none⟩ = some (.int .i64 n.f3) := blk_cell HN.out 3; have y4 : w3.cell? ⟨g, 4, none⟩ = some (.string n.f4) := blk_cell HN.out 4; have hlt : g < w3.heap.size := blk_lt HN.out; have hne : g ≠ w3.heap.size := Nat.ne_of_lt hlt; clear hb3) | (at_lookup; refine wpList_lookup_ok _ rfl _ _ 46 rfl 3 51 (KeyOK.int .i64) Try.underlying46 Try.underlying3 (zero51 _) rfl HM.out n.f0 rfl _ hv0.out _ hb0.out ?_) | (at_lookup; refine wpList_lookup_ok _ rfl _ _ 46 rfl 3 51 (KeyOK.int .i64) Try.underlying46 Try.underlying3 (zero51 _) rfl (HM.out.alloc _) n.f1 rfl _ hv1.out _ hb1.out ?_))
       go_ret2
       exact ⟨_, rfl, Kd.R_nil _ _ _ _ _, below_alloc (below_alloc HB.out _) _⟩
      | some p =>
       obtain ⟨p1, p2⟩ := p
       have hv1 : Aside0 (((mlook D n.f1).map encP).getD (.agg #[.int .i64 0, .int .i64 0]) = .agg #[.int .i64 p1, .int .i64 p2]) := ⟨by rw [hm1]; rfl⟩
       have hb1 : Aside0 ((mlook D n.f1).isSome = true) := ⟨by rw [hm1]; rfl⟩
       have hpI := HI.out _ _ hm1
       simp only at hpI
       have Hm1 := Aside0.mk hm1
       clear hm1
       have hp1a : 0 ≤ p1 := hpI.1
       have hp1b : p1 < (l0.length : Int) := hpI.2.1
       have HP1 := Aside0.mk hpI
       clear hpI
       have hp1c := eq_true hp1a
       have hp1d := eq_true hp1b
       have hp1e : decide (0 ≤ p1) = true := decide_eq_true hp1a
       have hp1f : decide (p1 < (l0.length : Int)) = true := decide_eq_true hp1b
       go_wp2_with (first | (go_at_call 42; (with_reducible refine (tree_formed.calls n.f0 n.f1 n.f2 n.f3 n.f4 true _ hff.out).mono ?_); rintro e w3 ⟨rfl, hb3⟩; have HBn := Aside0.mk (HB.out.trans (hb3.mono HB.out.size)); have HMn := Aside0.mk (HM.out.below hb3); have HNn := Aside0.mk ((hb3.block g (blk_lt HN.out)).trans HN.out); clear HB HM HN y0 y1 y2 y3 y4 hlt hne; have HB := HBn; have HM := HMn; have HN := HNn; clear HBn HMn HNn; have y0 : w3.cell? ⟨g, 0, none⟩ = some (.int .i64 n.f0) := blk_cell HN.out 0; have y1 : w3.cell? ⟨g, 1, none⟩ = some (.int .i64 n.f1) := blk_cell HN.out 1; have y2 : w3.cell? ⟨g, 2, none⟩ = some (.int .i64 n.f2) := blk_cell HN.out 2; have y3 : w3.cell? ⟨g, 3, none⟩ = some (.int .i64 n.f3) := blk_cell HN.out 3; have y4 : w3.cell? ⟨g, 4, none⟩ = some (.string n.f4) := blk_cell HN.out 4; have hlt : g < w3.heap.size := blk_lt HN.out; have hne : g ≠ w3.heap.size := Nat.ne_of_lt hlt; clear hb3) | (at_lookup; refine wpList_lookup_ok _ rfl _ _ 46 rfl 3 51 (KeyOK.int .i64) Try.underlying46 Try.underlying3 (zero51 _) rfl HM.out n.f0 rfl _ hv0.out _ hb0.out ?_) | (at_lookup; refine wpList_lookup_ok _ rfl _ _ 46 rfl 3 51 (KeyOK.int .i64) Try.underlying46 Try.underlying3 (zero51 _) rfl (HM.out.alloc _) n.f1 rfl _ hv1.out _ hb1.out ?_))
       have HBn := Aside0.mk (below_alloc (below_alloc HB.out (.cells #[.int .i64 0, .int .i64 0] 51)) (.cells #[.int .i64 p1, .int .i64 p2] 51))
       have HMn := Aside0.mk ((HM.out.alloc (.cells #[.int .i64 0, .int .i64 0] 51)).alloc (.cells #[.int .i64 p1, .int .i64 p2] 51))
       have HNn := Aside0.mk (blk_alloc (blk_alloc HN.out (.cells #[.int .i64 0, .int .i64 0] 51)) (.cells #[.int .i64 p1, .int .i64 p2] 51))
       have HTn := Aside0.mk (show ((w3.alloc (.cells #[.int .i64 0, .int .i64 0] 51)).alloc (.cells #[.int .i64 p1, .int .i64 p2] 51)).heap[w3.heap.size + 1]? = some (.cells #[.int .i64 p1, .int .i64 p2] 51 (0, 0)) from by have h_ := heap_alloc_new (w3.alloc (.cells #[.int .i64 0, .int .i64 0] 51)) (.cells #[.int .i64 p1, .int .i64 p2] 51); simpa using h_)
       clear HB HM HN y0 y1 y2 y3 y4 hlt hne
       generalize (w3.alloc (.cells #[.int .i64 0, .int .i64 0] 51)).alloc (.cells #[.int .i64 p1, .int .i64 p2] 51) = W at HBn HMn HNn HTn ⊢
       generalize w3.heap.size + 1 = t at HTn ⊢
       have HB := HBn
       have HM := HMn
       have HN := HNn
       have HT := HTn
       clear HBn HMn HNn HTn
       have y0 : W.cell? ⟨g, 0, none⟩ = some (.int .i64 n.f0) := blk_cell HN.out 0
       have y1 : W.cell? ⟨g, 1, none⟩ = some (.int .i64 n.f1) := blk_cell HN.out 1
       have y2 : W.cell? ⟨g, 2, none⟩ = some (.int .i64 n.f2) := blk_cell HN.out 2
       have y3 : W.cell? ⟨g, 3, none⟩ = some (.int .i64 n.f3) := blk_cell HN.out 3
       have y4 : W.cell? ⟨g, 4, none⟩ = some (.string n.f4) := blk_cell HN.out 4
       have hlt : g < W.heap.size := blk_lt HN.out
       have hne : g ≠ W.heap.size := Nat.ne_of_lt hlt
       have zt0 : W.cell? ⟨t, 0, none⟩ = some (.int .i64 p1) := blk_cell HT.out 0
       have zt1 : W.cell? ⟨t, 1, none⟩ = some (.int .i64 p2) := blk_cell HT.out 1
       have htlt := blk_lt HT.out
       obtain ⟨ad, e2, _, _, zk, _, _⟩ := at_T24 (Kd.C_below HR.out HB.out) p1 hp1a hp1b
       subst e2
       obtain ⟨kk, hkk⟩ : ∃ kk, kk = (rd_T24 l0 p1).f2 := ⟨_, rfl⟩
       rw [← hkk] at zk
       have Hkk := Aside0.mk hkk
       clear hkk
       by_cases hs : standsB n.f2 kk = true
       ·have hst : Aside0 (tree_stands.f n.f2 kk = some true) := ⟨by rw [stands_f, hs]⟩
        have hsf : Aside0 (standsB n.f2 (rd_T24 l0 p1).f2 = true) := ⟨by rw [← Hkk.out]; exact hs⟩
        clear hs
        refine start_ (n := 11) (S := fun w' => w'.cell? ⟨g, 2, none⟩ = some (.int .i64 n.f2) ∧ w'.cell? ⟨t, 0, none⟩ = some (.int .i64 p1) ∧ w'.cell? ⟨(ad.add (p1.toNat * 5)).block, (ad.add (p1.toNat * 5)).off + 2, none⟩ = some (.int .i64 kk)) (ds := []) #[false, false, false, false, false, false, false, false, false, false, false] (by kernel_rfl) rfl rfl ⟨(((below_drew1 (Below.refl W.heap.size W)).cell (p := ⟨g, 2, none⟩) hlt).trans y2), (((below_drew1 (Below.refl W.heap.size W)).cell (p := ⟨t, 0, none⟩) htlt).trans zt0), (((below_drew1 (Below.refl W.heap.size W)).cell (p := ⟨(ad.add (p1.toNat * 5)).block, (ad.add (p1.toNat * 5)).off + 2, none⟩) (World.block_lt_of_cell? W _ zk)).trans zk)⟩ (fun hHeld => ?_)
        refine with_tabW insert_r.tab12 insert_r.bits12 (fun HT_ HW_ => ?_)
        refine pure_ (i := 0) (N := some 71) (v := ?_) (a' := ?_) #[true, false, false, false, false, false, false, false, false, false, false] rfl rfl (any_of HT_.out (by kernel_rfl)) (fun _ _ _ h => h) (Or.inl ⟨by rfl, ?_⟩) ?_ ?_
        rotate_left
        ·intro w'
         go_simp
         with_reducible rfl
        rotate_left
        ·simp only [Act.put, List.setIfInBounds_toArray, List.set_cons_zero, List.set_cons_succ, i64_w, i32_w]
         rfl
        refine pure_ (i := 2) (N := some 73) (v := ?_) (a' := ?_) #[true, false, true, false, false, false, false, false, false, false, false] rfl rfl (any_of HT_.out (by kernel_rfl)) (fun _ _ _ h => h) (Or.inl ⟨by rfl, ?_⟩) ?_ ?_
        rotate_left
        ·intro w'
         go_simp
         with_reducible rfl
        rotate_left
        ·simp only [Act.put, List.setIfInBounds_toArray, List.set_cons_zero, List.set_cons_succ, i64_w, i32_w]
         rfl
        refine pure_ (i := 3) (N := some 74) (v := ?_) (a' := ?_) #[true, false, true, true, false, false, false, false, false, false, false] rfl rfl (any_of HT_.out (by kernel_rfl)) (fun _ _ _ h => h) (Or.inl ⟨by rfl, ?_⟩) ?_ ?_
        rotate_left
        ·intro w'
         go_simp
         with_reducible rfl
        rotate_left
        ·simp only [Act.put, List.setIfInBounds_toArray, List.set_cons_zero, List.set_cons_succ, i64_w, i32_w]
         rfl
        refine take_ (i := 1) (N := some 72) (v := ?_) (a' := ?_) #[true, true, true, true, false, false, false, false, false, false, false] rfl rfl (take_ofW HT_.out HW_.out (by kernel_rfl)) (fun _ _ _ h => h) (Or.inl ⟨by rfl, ?_⟩) hHeld ?_ ?_
        rotate_left
        ·rintro w' ⟨s0, s1, s2⟩
         go_simp
         with_reducible rfl
        rotate_left
        ·simp only [Act.put, List.setIfInBounds_toArray, List.set_cons_zero, List.set_cons_succ, i64_w, i32_w]
         rfl
        refine take_ (i := 4) (N := some 75) (v := ?_) (a' := ?_) #[true, true, true, true, true, false, false, false, false, false, false] rfl rfl (take_ofW HT_.out HW_.out (by kernel_rfl)) (fun _ _ _ h => h) (Or.inl ⟨by rfl, ?_⟩) hHeld ?_ ?_
        rotate_left
        ·rintro w' ⟨s0, s1, s2⟩
         go_simp
         with_reducible rfl
        rotate_left
        ·simp only [Act.put, List.setIfInBounds_toArray, List.set_cons_zero, List.set_cons_succ, i64_w, i32_w]
         rfl
        refine pure_ (i := 5) (N := some 76) (v := ?_) (a' := ?_) #[true, true, true, true, true, true, false, false, false, false, false] rfl rfl (any_of HT_.out (by kernel_rfl)) (fun _ _ _ h => h) (Or.inl ⟨by rfl, ?_⟩) ?_ ?_
        rotate_left
        ·intro w'
         go_simp
         with_reducible rfl
        rotate_left
        ·simp only [Act.put, List.setIfInBounds_toArray, List.set_cons_zero, List.set_cons_succ, i64_w, i32_w]
         rfl
        refine pure_ (i := 6) (N := some 77) (v := ?_) (a' := ?_) #[true, true, true, true, true, true, true, false, false, false, false] rfl rfl (any_of HT_.out (by kernel_rfl)) (fun _ _ _ h => h) (Or.inl ⟨by rfl, ?_⟩) ?_ ?_
        rotate_left
        ·intro w'
         go_simp
         with_reducible rfl
        rotate_left
        ·simp only [Act.put, List.setIfInBounds_toArray, List.set_cons_zero, List.set_cons_succ, i64_w, i32_w]
         rfl
        refine take_ (i := 7) (N := some 78) (v := ?_) (a' := ?_) #[true, true, true, true, true, true, true, true, false, false, false] rfl rfl (take_ofW HT_.out HW_.out (by kernel_rfl)) (fun _ _ _ h => h) (Or.inl ⟨by rfl, ?_⟩) hHeld ?_ ?_
        rotate_left
        ·rintro w' ⟨s0, s1, s2⟩
         go_simp
         with_reducible rfl
        rotate_left
        ·simp only [Act.put, List.setIfInBounds_toArray, List.set_cons_zero, List.set_cons_succ, i64_w, i32_w]
         rfl
        refine one_ (i := 8) (N := some 79) #[true, true, true, true, true, true, true, true, true, false, false] rfl rfl (one_of HT_.out (by kernel_rfl)) (by decide) (fun K hK => ?_)
        refine goes_ Try.func44 (by kernel_rfl) rfl #[.int .i64 n.f2, .int .i64 kk] (by rfl) rfl rfl (by simp only [List.map_toArray, List.map_cons, List.map_nil]; rfl) ?_
        with_reducible refine (tree_stands.calls n.f2 kk true _ hst.out).mono ?_
        rintro e w7 ⟨rfl, hds⟩
        refine ⟨_, rfl, ?_⟩
        have hb7 : Below W.heap.size W w7 := (below_drew1 (Below.refl _ W)).trans hds.below
        refine hK.out _ _ ⟨((hb7.cell (p := ⟨g, 2, none⟩) hlt).trans y2), ((hb7.cell (p := ⟨t, 0, none⟩) htlt).trans zt0), ((hb7.cell (p := ⟨(ad.add (p1.toNat * 5)).block, (ad.add (p1.toNat * 5)).off + 2, none⟩) (World.block_lt_of_cell? W _ zk)).trans zk)⟩ (fun hHeld => ?_)
        clear hK K
        refine norm_ (a' := ?_) ?_ ?_
        rotate_left
        ·show Act.put _ (some 79) _ = _
         simp only [Act.put, List.setIfInBounds_toArray, List.set_cons_zero, List.set_cons_succ, i64_w, i32_w]
         rfl
        refine pure_ (i := 9) (N := some 80) (v := ?_) (a' := ?_) #[true, true, true, true, true, true, true, true, true, true, false] rfl rfl (any_of HT_.out (by kernel_rfl)) (fun _ _ _ h => h) (Or.inl ⟨by rfl, ?_⟩) ?_ ?_
        rotate_left
        ·intro w'
         go_simp
         with_reducible rfl
        rotate_left
        ·simp only [Act.put, List.setIfInBounds_toArray, List.set_cons_zero, List.set_cons_succ, i64_w, i32_w]
         rfl
        refine pure_ (i := 10) (N := some 70) (v := ?_) (a' := ?_) #[true, true, true, true, true, true, true, true, true, true, true] rfl rfl (any_of HT_.out (by kernel_rfl)) (fun _ _ _ h => h) (Or.inl ⟨by rfl, ?_⟩) ?_ ?_
        rotate_left
        ·intro w'
         go_simp
         with_reducible rfl
        rotate_left
        ·simp only [Act.put, List.setIfInBounds_toArray, List.set_cons_zero, List.set_cons_succ, i64_w, i32_w]
         rfl
        refine done_ (done_of HT_.out (by kernel_rfl)) ?_

        have HBn := Aside0.mk (HB.out.trans (hb7.mono HB.out.size))
        have HMn := Aside0.mk (HM.out.below hb7)
        have HNn := Aside0.mk ((hb7.block g (blk_lt HN.out)).trans HN.out)
        have HTn := Aside0.mk ((hb7.block t (blk_lt HT.out)).trans HT.out)
        clear HB HM HN HT y0 y1 y2 y3 y4 hlt hne
        have HB := HBn
        have HM := HMn
        have HN := HNn
        have HT := HTn
        clear HBn HMn HNn HTn
        have y0 : w7.cell? ⟨g, 0, none⟩ = some (.int .i64 n.f0) := blk_cell HN.out 0
        have y1 : w7.cell? ⟨g, 1, none⟩ = some (.int .i64 n.f1) := blk_cell HN.out 1
        have y2 : w7.cell? ⟨g, 2, none⟩ = some (.int .i64 n.f2) := blk_cell HN.out 2
        have y3 : w7.cell? ⟨g, 3, none⟩ = some (.int .i64 n.f3) := blk_cell HN.out 3
        have y4 : w7.cell? ⟨g, 4, none⟩ = some (.string n.f4) := blk_cell HN.out 4
        have hlt : g < w7.heap.size := blk_lt HN.out
        have hne : g ≠ w7.heap.size := Nat.ne_of_lt hlt
        have zt3 : w7.cell? ⟨t, 1, none⟩ = some (.int .i64 p2) := blk_cell HT.out 1
        clear zt0 zt1 zk htlt hb7
        by_cases h4 : l0.length = 4000
        ·have h4b : ((l0.length : Int) == 4000) = true := by simp; omega
         have H2 := HP.out
         unfold insertP at H2
         rw [HD.out] at H2
         simp [hbz, Hf.out, Hp0.out, Hm0.out, Hm1.out, hsf.out, h4] at H2
         obtain ⟨rfl, rfl⟩ := H2
         clear h4 HP
         go_wp2
         go_ret2
         exact ⟨_, rfl, Kd.R_nil _ _ _ _ _, HB.out⟩
        ·have h4b : ((l0.length : Int) == 4000) = false := by simp; omega
         by_cases h30 : p2 = 30
         ·have h30b : (p2 == 30) = true := by simpa using h30
          have H2 := HP.out
          unfold insertP at H2
          rw [HD.out] at H2
          simp [hbz, Hf.out, Hp0.out, Hm0.out, Hm1.out, hsf.out, h4, h30] at H2
          obtain ⟨rfl, rfl⟩ := H2
          clear h4 h30 HP
          go_wp2
          go_ret2
          exact ⟨_, rfl, Kd.R_nil _ _ _ _ _, HB.out⟩
         ·have h30b : (p2 == 30) = false := by simpa using h30
          have H2 := HP.out
          unfold insertP at H2
          rw [HD.out] at H2
          simp [hbz, Hf.out, Hp0.out, Hm0.out, Hm1.out, hsf.out, h4, h30] at H2
          obtain ⟨q, hput, rfl, rfl⟩ := H2
          have HPut := Aside0.mk hput
          clear h4 h30 HP hput
          go_wp2_with (first | (go_at_call 45; (refine (put_calls _ c0 l0 (some ⟨w7.heap.size, 0, none⟩) 1 [n] _ _ _ (Kd.C_alloc (Kd.C_below HR.out HB.out) _) HC0.out (C_one w7 n) (Nat.le_refl _) (by have := HL.out; simp <;> omega) HPut.out).mono ?_); rintro e w8 ⟨v8, rfl, hR8, hb8⟩))
          go_ret2
          exact ⟨_, rfl, Kd.R_lower hR8 (by have := HB.out.size; simp; omega), (below_alloc HB.out _).trans (hb8.mono (by have := HB.out.size; simp; omega))⟩
       ·have hst : Aside0 (tree_stands.f n.f2 kk = some false) := ⟨by rw [stands_f]; simpa using hs⟩
        have hsf : Aside0 (standsB n.f2 (rd_T24 l0 p1).f2 = false) := ⟨by rw [← Hkk.out]; simpa using hs⟩
        clear hs
        have H2 := HP.out
        unfold insertP at H2
        rw [HD.out] at H2
        simp [hbz, Hf.out, Hp0.out, Hm0.out, Hm1.out, hsf.out] at H2
        obtain ⟨rfl, rfl⟩ := H2
        clear HP
        refine start_ (n := 11) (S := fun w' => w'.cell? ⟨g, 2, none⟩ = some (.int .i64 n.f2) ∧ w'.cell? ⟨t, 0, none⟩ = some (.int .i64 p1) ∧ w'.cell? ⟨(ad.add (p1.toNat * 5)).block, (ad.add (p1.toNat * 5)).off + 2, none⟩ = some (.int .i64 kk)) (ds := []) #[false, false, false, false, false, false, false, false, false, false, false] (by kernel_rfl) rfl rfl ⟨(((below_drew1 (Below.refl W.heap.size W)).cell (p := ⟨g, 2, none⟩) hlt).trans y2), (((below_drew1 (Below.refl W.heap.size W)).cell (p := ⟨t, 0, none⟩) htlt).trans zt0), (((below_drew1 (Below.refl W.heap.size W)).cell (p := ⟨(ad.add (p1.toNat * 5)).block, (ad.add (p1.toNat * 5)).off + 2, none⟩) (World.block_lt_of_cell? W _ zk)).trans zk)⟩ (fun hHeld => ?_)
        refine with_tabW insert_r.tab12 insert_r.bits12 (fun HT_ HW_ => ?_)
        refine pure_ (i := 0) (N := some 71) (v := ?_) (a' := ?_) #[true, false, false, false, false, false, false, false, false, false, false] rfl rfl (any_of HT_.out (by kernel_rfl)) (fun _ _ _ h => h) (Or.inl ⟨by rfl, ?_⟩) ?_ ?_
        rotate_left
        ·intro w'
         go_simp
         with_reducible rfl
        rotate_left
        ·simp only [Act.put, List.setIfInBounds_toArray, List.set_cons_zero, List.set_cons_succ, i64_w, i32_w]
         rfl
        refine pure_ (i := 2) (N := some 73) (v := ?_) (a' := ?_) #[true, false, true, false, false, false, false, false, false, false, false] rfl rfl (any_of HT_.out (by kernel_rfl)) (fun _ _ _ h => h) (Or.inl ⟨by rfl, ?_⟩) ?_ ?_
        rotate_left
        ·intro w'
         go_simp
         with_reducible rfl
        rotate_left
        ·simp only [Act.put, List.setIfInBounds_toArray, List.set_cons_zero, List.set_cons_succ, i64_w, i32_w]
         rfl
        refine pure_ (i := 3) (N := some 74) (v := ?_) (a' := ?_) #[true, false, true, true, false, false, false, false, false, false, false] rfl rfl (any_of HT_.out (by kernel_rfl)) (fun _ _ _ h => h) (Or.inl ⟨by rfl, ?_⟩) ?_ ?_
        rotate_left
        ·intro w'
         go_simp
         with_reducible rfl
        rotate_left
        ·simp only [Act.put, List.setIfInBounds_toArray, List.set_cons_zero, List.set_cons_succ, i64_w, i32_w]
         rfl
        refine take_ (i := 1) (N := some 72) (v := ?_) (a' := ?_) #[true, true, true, true, false, false, false, false, false, false, false] rfl rfl (take_ofW HT_.out HW_.out (by kernel_rfl)) (fun _ _ _ h => h) (Or.inl ⟨by rfl, ?_⟩) hHeld ?_ ?_
        rotate_left
        ·rintro w' ⟨s0, s1, s2⟩
         go_simp
         with_reducible rfl
        rotate_left
        ·simp only [Act.put, List.setIfInBounds_toArray, List.set_cons_zero, List.set_cons_succ, i64_w, i32_w]
         rfl
        refine take_ (i := 4) (N := some 75) (v := ?_) (a' := ?_) #[true, true, true, true, true, false, false, false, false, false, false] rfl rfl (take_ofW HT_.out HW_.out (by kernel_rfl)) (fun _ _ _ h => h) (Or.inl ⟨by rfl, ?_⟩) hHeld ?_ ?_
        rotate_left
        ·rintro w' ⟨s0, s1, s2⟩
         go_simp
         with_reducible rfl
        rotate_left
        ·simp only [Act.put, List.setIfInBounds_toArray, List.set_cons_zero, List.set_cons_succ, i64_w, i32_w]
         rfl
        refine pure_ (i := 5) (N := some 76) (v := ?_) (a' := ?_) #[true, true, true, true, true, true, false, false, false, false, false] rfl rfl (any_of HT_.out (by kernel_rfl)) (fun _ _ _ h => h) (Or.inl ⟨by rfl, ?_⟩) ?_ ?_
        rotate_left
        ·intro w'
         go_simp
         with_reducible rfl
        rotate_left
        ·simp only [Act.put, List.setIfInBounds_toArray, List.set_cons_zero, List.set_cons_succ, i64_w, i32_w]
         rfl
        refine pure_ (i := 6) (N := some 77) (v := ?_) (a' := ?_) #[true, true, true, true, true, true, true, false, false, false, false] rfl rfl (any_of HT_.out (by kernel_rfl)) (fun _ _ _ h => h) (Or.inl ⟨by rfl, ?_⟩) ?_ ?_
        rotate_left
        ·intro w'
         go_simp
         with_reducible rfl
        rotate_left
        ·simp only [Act.put, List.setIfInBounds_toArray, List.set_cons_zero, List.set_cons_succ, i64_w, i32_w]
         rfl
        refine take_ (i := 7) (N := some 78) (v := ?_) (a' := ?_) #[true, true, true, true, true, true, true, true, false, false, false] rfl rfl (take_ofW HT_.out HW_.out (by kernel_rfl)) (fun _ _ _ h => h) (Or.inl ⟨by rfl, ?_⟩) hHeld ?_ ?_
        rotate_left
        ·rintro w' ⟨s0, s1, s2⟩
         go_simp
         with_reducible rfl
        rotate_left
        ·simp only [Act.put, List.setIfInBounds_toArray, List.set_cons_zero, List.set_cons_succ, i64_w, i32_w]
         rfl
        refine one_ (i := 8) (N := some 79) #[true, true, true, true, true, true, true, true, true, false, false] rfl rfl (one_of HT_.out (by kernel_rfl)) (by decide) (fun K hK => ?_)
        refine goes_ Try.func44 (by kernel_rfl) rfl #[.int .i64 n.f2, .int .i64 kk] (by rfl) rfl rfl (by simp only [List.map_toArray, List.map_cons, List.map_nil]; rfl) ?_
        with_reducible refine (tree_stands.calls n.f2 kk false _ hst.out).mono ?_
        rintro e w7 ⟨rfl, hds⟩
        refine ⟨_, rfl, ?_⟩
        have hb7 : Below W.heap.size W w7 := (below_drew1 (Below.refl _ W)).trans hds.below
        refine hK.out _ _ ⟨((hb7.cell (p := ⟨g, 2, none⟩) hlt).trans y2), ((hb7.cell (p := ⟨t, 0, none⟩) htlt).trans zt0), ((hb7.cell (p := ⟨(ad.add (p1.toNat * 5)).block, (ad.add (p1.toNat * 5)).off + 2, none⟩) (World.block_lt_of_cell? W _ zk)).trans zk)⟩ (fun hHeld => ?_)
        clear hK K
        refine norm_ (a' := ?_) ?_ ?_
        rotate_left
        ·show Act.put _ (some 79) _ = _
         simp only [Act.put, List.setIfInBounds_toArray, List.set_cons_zero, List.set_cons_succ, i64_w, i32_w]
         rfl
        refine pure_ (i := 9) (N := some 80) (v := ?_) (a' := ?_) #[true, true, true, true, true, true, true, true, true, true, false] rfl rfl (any_of HT_.out (by kernel_rfl)) (fun _ _ _ h => h) (Or.inl ⟨by rfl, ?_⟩) ?_ ?_
        rotate_left
        ·intro w'
         go_simp
         with_reducible rfl
        rotate_left
        ·simp only [Act.put, List.setIfInBounds_toArray, List.set_cons_zero, List.set_cons_succ, i64_w, i32_w]
         rfl
        refine pure_ (i := 10) (N := some 70) (v := ?_) (a' := ?_) #[true, true, true, true, true, true, true, true, true, true, true] rfl rfl (any_of HT_.out (by kernel_rfl)) (fun _ _ _ h => h) (Or.inl ⟨by rfl, ?_⟩) ?_ ?_
        rotate_left
        ·intro w'
         go_simp
         with_reducible rfl
        rotate_left
        ·simp only [Act.put, List.setIfInBounds_toArray, List.set_cons_zero, List.set_cons_succ, i64_w, i32_w]
         rfl
        refine done_ (done_of HT_.out (by kernel_rfl)) ?_

        have HBn := Aside0.mk (HB.out.trans (hb7.mono HB.out.size))
        have HMn := Aside0.mk (HM.out.below hb7)
        have HNn := Aside0.mk ((hb7.block g (blk_lt HN.out)).trans HN.out)
        have HTn := Aside0.mk ((hb7.block t (blk_lt HT.out)).trans HT.out)
        clear HB HM HN HT y0 y1 y2 y3 y4 hlt hne
        have HB := HBn
        have HM := HMn
        have HN := HNn
        have HT := HTn
        clear HBn HMn HNn HTn
        have y0 : w7.cell? ⟨g, 0, none⟩ = some (.int .i64 n.f0) := blk_cell HN.out 0
        have y1 : w7.cell? ⟨g, 1, none⟩ = some (.int .i64 n.f1) := blk_cell HN.out 1
        have y2 : w7.cell? ⟨g, 2, none⟩ = some (.int .i64 n.f2) := blk_cell HN.out 2
        have y3 : w7.cell? ⟨g, 3, none⟩ = some (.int .i64 n.f3) := blk_cell HN.out 3
        have y4 : w7.cell? ⟨g, 4, none⟩ = some (.string n.f4) := blk_cell HN.out 4
        have hlt : g < w7.heap.size := blk_lt HN.out
        have hne : g ≠ w7.heap.size := Nat.ne_of_lt hlt
        clear zt0 zt1 zk htlt hb7
        go_wp2
        go_ret2
        exact ⟨_, rfl, Kd.R_nil _ _ _ _ _, HB.out⟩
   ·have hff : Aside0 (tree_formed.f n.f0 n.f1 n.f2 n.f3 n.f4 = some false) := ⟨by rw [formed_f]; simpa using hf⟩
    have H2 := HP.out
    unfold insertP at H2
    rw [HD.out] at H2
    simp [hbz, hf] at H2
    obtain ⟨rfl, rfl⟩ := H2
    clear hf HP
    go_wp2_with (first | (go_at_call 42; (with_reducible refine (tree_formed.calls n.f0 n.f1 n.f2 n.f3 n.f4 false _ hff.out).mono ?_); rintro e w3 ⟨rfl, hb3⟩; have HBn := Aside0.mk (HB.out.trans (hb3.mono HB.out.size)); have HMn := Aside0.mk (HM.out.below hb3); have HNn := Aside0.mk ((hb3.block g (blk_lt HN.out)).trans HN.out); clear HB HM HN y0 y1 y2 y3 y4 hlt hne; have HB := HBn; have HM := HMn; have HN := HNn; clear HBn HMn HNn; have y0 : w3.cell? ⟨g, 0, none⟩ = some (.int .i64 n.f0) := blk_cell HN.out 0; have y1 : w3.cell? ⟨g, 1, none⟩ = some (.int .i64 n.f1) := blk_cell HN.out 1; have y2 : w3.cell? ⟨g, 2, none⟩ = some (.int .i64 n.f2) := blk_cell HN.out 2; have y3 : w3.cell? ⟨g, 3, none⟩ = some (.int .i64 n.f3) := blk_cell HN.out 3; have y4 : w3.cell? ⟨g, 4, none⟩ = some (.string n.f4) := blk_cell HN.out 4; have hlt : g < w3.heap.size := blk_lt HN.out; have hne : g ≠ w3.heap.size := Nat.ne_of_lt hlt; clear hb3))
    go_ret2
    exact ⟨_, rfl, Kd.R_nil _ _ _ _ _, HB.out⟩
  ·have hbzb : (b != 0) = true := by simpa using hbz
   by_cases hidb : idB b = true
   ·have hid : Aside0 (tree_isID.f b = some true) := ⟨by rw [idB_f, hidb]⟩
    by_cases hf : formedB n = true
    ·have hff : Aside0 (tree_formed.f n.f0 n.f1 n.f2 n.f3 n.f4 = some true) := ⟨by rw [formed_f, hf]⟩
     have Hf := Aside0.mk hf
     clear hf
     by_cases hp0 : n.f1 = 0
     ·have hp0b : (n.f1 == 0) = true := by simpa using hp0
      have H2 := HP.out
      unfold insertP at H2
      rw [HD.out] at H2
      simp [hbz, hidb, Hf.out, hp0] at H2
      obtain ⟨rfl, rfl⟩ := H2
      clear hp0 HP
      go_wp2_with (first | (go_at_call 32; (with_reducible refine (tree_isID.calls b true _ hid.out).mono ?_); rintro e w2 ⟨rfl, hd⟩; have HBn := Aside0.mk (HB.out.trans (hd.below.mono HB.out.size)); have HMn := Aside0.mk (HM.out.below hd.below); have HNn := Aside0.mk ((hd.below.block g (blk_lt HN.out)).trans HN.out); clear HB HM HN y0 y1 y2 y3 y4 hlt hne; have HB := HBn; have HM := HMn; have HN := HNn; clear HBn HMn HNn; have y0 : w2.cell? ⟨g, 0, none⟩ = some (.int .i64 n.f0) := blk_cell HN.out 0; have y1 : w2.cell? ⟨g, 1, none⟩ = some (.int .i64 n.f1) := blk_cell HN.out 1; have y2 : w2.cell? ⟨g, 2, none⟩ = some (.int .i64 n.f2) := blk_cell HN.out 2; have y3 : w2.cell? ⟨g, 3, none⟩ = some (.int .i64 n.f3) := blk_cell HN.out 3; have y4 : w2.cell? ⟨g, 4, none⟩ = some (.string n.f4) := blk_cell HN.out 4; have hlt : g < w2.heap.size := blk_lt HN.out; have hne : g ≠ w2.heap.size := Nat.ne_of_lt hlt; clear hd) | (go_at_call 42; (with_reducible refine (tree_formed.calls n.f0 n.f1 n.f2 n.f3 n.f4 true _ hff.out).mono ?_); rintro e w3 ⟨rfl, hb3⟩; have HBn := Aside0.mk (HB.out.trans (hb3.mono HB.out.size)); have HMn := Aside0.mk (HM.out.below hb3); have HNn := Aside0.mk ((hb3.block g (blk_lt HN.out)).trans HN.out); clear HB HM HN y0 y1 y2 y3 y4 hlt hne; have HB := HBn; have HM := HMn; have HN := HNn; clear HBn HMn HNn; have y0 : w3.cell? ⟨g, 0, none⟩ = some (.int .i64 n.f0) := blk_cell HN.out 0; have y1 : w3.cell? ⟨g, 1, none⟩ = some (.int .i64 n.f1) := blk_cell HN.out 1; have y2 : w3.cell? ⟨g, 2, none⟩ = some (.int .i64 n.f2) := blk_cell HN.out 2; have y3 : w3.cell? ⟨g, 3, none⟩ = some (.int .i64 n.f3) := blk_cell HN.out 3; have y4 : w3.cell? ⟨g, 4, none⟩ = some (.string n.f4) := blk_cell HN.out 4; have hlt : g < w3.heap.size := blk_lt HN.out; have hne : g ≠ w3.heap.size := Nat.ne_of_lt hlt; clear hb3))
      go_ret2
      exact ⟨_, rfl, Kd.R_nil _ _ _ _ _, HB.out⟩
     ·have hp0b : (n.f1 == 0) = false := by simpa using hp0
      have Hp0 := Aside0.mk hp0
      clear hp0
      cases hm0 : mlook D n.f0 with
      | some v0 =>
       have hv0 : Aside0 (((mlook D n.f0).map encP).getD (.agg #[.int .i64 0, .int .i64 0]) = .agg #[.int .i64 v0.1, .int .i64 v0.2]) := ⟨by rw [hm0]; rfl⟩
       have hb0 : Aside0 ((mlook D n.f0).isSome = true) := ⟨by rw [hm0]; rfl⟩
       have H2 := HP.out
       unfold insertP at H2
       rw [HD.out] at H2
       simp [hbz, hidb, Hf.out, Hp0.out, hm0] at H2
       obtain ⟨rfl, rfl⟩ := H2
       clear hm0 HP
       go_wp2_with (first | (go_at_call 32; (with_reducible refine (tree_isID.calls b true _ hid.out).mono ?_); rintro e w2 ⟨rfl, hd⟩; have HBn := Aside0.mk (HB.out.trans (hd.below.mono HB.out.size)); have HMn := Aside0.mk (HM.out.below hd.below); have HNn := Aside0.mk ((hd.below.block g (blk_lt HN.out)).trans HN.out); clear HB HM HN y0 y1 y2 y3 y4 hlt hne; have HB := HBn; have HM := HMn; have HN := HNn; clear HBn HMn HNn; have y0 : w2.cell? ⟨g, 0, none⟩ = some (.int .i64 n.f0) := blk_cell HN.out 0; have y1 : w2.cell? ⟨g, 1, none⟩ = some (.int .i64 n.f1) := blk_cell HN.out 1; have y2 : w2.cell? ⟨g, 2, none⟩ = some (.int .i64 n.f2) := blk_cell HN.out 2; have y3 : w2.cell? ⟨g, 3, none⟩ = some (.int .i64 n.f3) := blk_cell HN.out 3; have y4 : w2.cell? ⟨g, 4, none⟩ = some (.string n.f4) := blk_cell HN.out 4; have hlt : g < w2.heap.size := blk_lt HN.out; have hne : g ≠ w2.heap.size := Nat.ne_of_lt hlt; clear hd) | (go_at_call 42; (with_reducible refine (tree_formed.calls n.f0 n.f1 n.f2 n.f3 n.f4 true _ hff.out).mono ?_); rintro e w3 ⟨rfl, hb3⟩; have HBn := Aside0.mk (HB.out.trans (hb3.mono HB.out.size)); have HMn := Aside0.mk (HM.out.below hb3); have HNn := Aside0.mk ((hb3.block g (blk_lt HN.out)).trans HN.out); clear HB HM HN y0 y1 y2 y3 y4 hlt hne; have HB := HBn; have HM := HMn; have HN := HNn; clear HBn HMn HNn; have y0 : w3.cell? ⟨g, 0, none⟩ = some (.int .i64 n.f0) := blk_cell HN.out 0; have y1 : w3.cell? ⟨g, 1, none⟩ = some (.int .i64 n.f1) := blk_cell HN.out 1; have y2 : w3.cell? ⟨g, 2, none⟩ = some (.int .i64 n.f2) := blk_cell HN.out 2; have y3 : w3.cell? ⟨g, 3, none⟩ = some (.int .i64 n.f3) := blk_cell HN.out 3; have y4 : w3.cell? ⟨g, 4, none⟩ = some (.string n.f4) := blk_cell HN.out 4; have hlt : g < w3.heap.size := blk_lt HN.out; have hne : g ≠ w3.heap.size := Nat.ne_of_lt hlt; clear hb3) | (at_lookup; refine wpList_lookup_ok _ rfl _ _ 46 rfl 3 51 (KeyOK.int .i64) Try.underlying46 Try.underlying3 (zero51 _) rfl HM.out n.f0 rfl _ hv0.out _ hb0.out ?_))
       go_ret2
       exact ⟨_, rfl, Kd.R_nil _ _ _ _ _, below_alloc HB.out _⟩
      | none =>
       have hv0 : Aside0 (((mlook D n.f0).map encP).getD (.agg #[.int .i64 0, .int .i64 0]) = .agg #[.int .i64 0, .int .i64 0]) := ⟨by rw [hm0]; rfl⟩
       have hb0 : Aside0 ((mlook D n.f0).isSome = false) := ⟨by rw [hm0]; rfl⟩
       have Hm0 := Aside0.mk hm0
       clear hm0
       cases hm1 : mlook D n.f1 with
       | none =>
        have hv1 : Aside0 (((mlook D n.f1).map encP).getD (.agg #[.int .i64 0, .int .i64 0]) = .agg #[.int .i64 0, .int .i64 0]) := ⟨by rw [hm1]; rfl⟩
        have hb1 : Aside0 ((mlook D n.f1).isSome = false) := ⟨by rw [hm1]; rfl⟩
        have H2 := HP.out
        unfold insertP at H2
        rw [HD.out] at H2
        simp [hbz, hidb, Hf.out, Hp0.out, Hm0.out, hm1] at H2
        obtain ⟨rfl, rfl⟩ := H2
        clear hm1 HP
        go_wp2_with (first | (go_at_call 32; (with_reducible refine (tree_isID.calls b true _ hid.out).mono ?_); rintro e w2 ⟨rfl, hd⟩; have HBn := Aside0.mk (HB.out.trans (hd.below.mono HB.out.size)); have HMn := Aside0.mk (HM.out.below hd.below); have HNn := Aside0.mk ((hd.below.block g (blk_lt HN.out)).trans HN.out); clear HB HM HN y0 y1 y2 y3 y4 hlt hne; have HB := HBn; have HM := HMn; have HN := HNn; clear HBn HMn HNn; have y0 : w2.cell? ⟨g, 0, none⟩ = some (.int .i64 n.f0) := blk_cell HN.out 0; have y1 : w2.cell? ⟨g, 1, none⟩ = some (.int .i64 n.f1) := blk_cell HN.out 1; have y2 : w2.cell? ⟨g, 2, none⟩ = some (.int .i64 n.f2) := blk_cell HN.out 2; have y3 : w2.cell? ⟨g, 3, none⟩ = some (.int .i64 n.f3) := blk_cell HN.out 3; have y4 : w2.cell? ⟨g, 4, none⟩ = some (.string n.f4) := blk_cell HN.out 4; have hlt : g < w2.heap.size := blk_lt HN.out; have hne : g ≠ w2.heap.size := Nat.ne_of_lt hlt; clear hd) | (go_at_call 42; (with_reducible refine (tree_formed.calls n.f0 n.f1 n.f2 n.f3 n.f4 true _ hff.out).mono ?_); rintro e w3 ⟨rfl, hb3⟩; have HBn := Aside0.mk (HB.out.trans (hb3.mono HB.out.size)); have HMn := Aside0.mk (HM.out.below hb3); have HNn := Aside0.mk ((hb3.block g (blk_lt HN.out)).trans HN.out); clear HB HM HN y0 y1 y2 y3 y4 hlt hne; have HB := HBn; have HM := HMn; have HN := HNn; clear HBn HMn HNn; have y0 : w3.cell? ⟨g, 0, none⟩ = some (.int .i64 n.f0) := blk_cell HN.out 0; have y1 : w3.cell? ⟨g, 1, none⟩ = some (.int .i64 n.f1) := blk_cell HN.out 1; have y2 : w3.cell? ⟨g, 2, none⟩ = some (.int .i64 n.f2) := blk_cell HN.out 2; have y3 : w3.cell? ⟨g, 3, none⟩ = some (.int .i64 n.f3) := blk_cell HN.out 3; have y4 : w3.cell? ⟨g, 4, none⟩ = some (.string n.f4) := blk_cell HN.out 4; have hlt : g < w3.heap.size := blk_lt HN.out; have hne : g ≠ w3.heap.size := Nat.ne_of_lt hlt; clear hb3) | (at_lookup; refine wpList_lookup_ok _ rfl _ _ 46 rfl 3 51 (KeyOK.int .i64) Try.underlying46 Try.underlying3 (zero51 _) rfl HM.out n.f0 rfl _ hv0.out _ hb0.out ?_) | (at_lookup; refine wpList_lookup_ok _ rfl _ _ 46 rfl 3 51 (KeyOK.int .i64) Try.underlying46 Try.underlying3 (zero51 _) rfl (HM.out.alloc _) n.f1 rfl _ hv1.out _ hb1.out ?_))
        go_ret2
        exact ⟨_, rfl, Kd.R_nil _ _ _ _ _, below_alloc (below_alloc HB.out _) _⟩
       | some p =>
        obtain ⟨p1, p2⟩ := p
        have hv1 : Aside0 (((mlook D n.f1).map encP).getD (.agg #[.int .i64 0, .int .i64 0]) = .agg #[.int .i64 p1, .int .i64 p2]) := ⟨by rw [hm1]; rfl⟩
        have hb1 : Aside0 ((mlook D n.f1).isSome = true) := ⟨by rw [hm1]; rfl⟩
        have hpI := HI.out _ _ hm1
        simp only at hpI
        have Hm1 := Aside0.mk hm1
        clear hm1
        have hp1a : 0 ≤ p1 := hpI.1
        have hp1b : p1 < (l0.length : Int) := hpI.2.1
        have HP1 := Aside0.mk hpI
        clear hpI
        have hp1c := eq_true hp1a
        have hp1d := eq_true hp1b
        have hp1e : decide (0 ≤ p1) = true := decide_eq_true hp1a
        have hp1f : decide (p1 < (l0.length : Int)) = true := decide_eq_true hp1b
        by_cases hk : b ∈ kidsL l0 n.f1
        ·have hin : Aside0 (slices_Contains_int_int.f 4001 (kidsL l0 n.f1) b = some true) := ⟨by rw [contains_f _ _ (Nat.le_trans (kidsL_len _ _) HL.out)]; simpa using hk⟩
         have Hk := Aside0.mk hk
         clear hk
         go_wp2_with (first | (go_at_call 32; (with_reducible refine (tree_isID.calls b true _ hid.out).mono ?_); rintro e w2 ⟨rfl, hd⟩; have HBn := Aside0.mk (HB.out.trans (hd.below.mono HB.out.size)); have HMn := Aside0.mk (HM.out.below hd.below); have HNn := Aside0.mk ((hd.below.block g (blk_lt HN.out)).trans HN.out); clear HB HM HN y0 y1 y2 y3 y4 hlt hne; have HB := HBn; have HM := HMn; have HN := HNn; clear HBn HMn HNn; have y0 : w2.cell? ⟨g, 0, none⟩ = some (.int .i64 n.f0) := blk_cell HN.out 0; have y1 : w2.cell? ⟨g, 1, none⟩ = some (.int .i64 n.f1) := blk_cell HN.out 1; have y2 : w2.cell? ⟨g, 2, none⟩ = some (.int .i64 n.f2) := blk_cell HN.out 2; have y3 : w2.cell? ⟨g, 3, none⟩ = some (.int .i64 n.f3) := blk_cell HN.out 3; have y4 : w2.cell? ⟨g, 4, none⟩ = some (.string n.f4) := blk_cell HN.out 4; have hlt : g < w2.heap.size := blk_lt HN.out; have hne : g ≠ w2.heap.size := Nat.ne_of_lt hlt; clear hd) | (go_at_call 42; (with_reducible refine (tree_formed.calls n.f0 n.f1 n.f2 n.f3 n.f4 true _ hff.out).mono ?_); rintro e w3 ⟨rfl, hb3⟩; have HBn := Aside0.mk (HB.out.trans (hb3.mono HB.out.size)); have HMn := Aside0.mk (HM.out.below hb3); have HNn := Aside0.mk ((hb3.block g (blk_lt HN.out)).trans HN.out); clear HB HM HN y0 y1 y2 y3 y4 hlt hne; have HB := HBn; have HM := HMn; have HN := HNn; clear HBn HMn HNn; have y0 : w3.cell? ⟨g, 0, none⟩ = some (.int .i64 n.f0) := blk_cell HN.out 0; have y1 : w3.cell? ⟨g, 1, none⟩ = some (.int .i64 n.f1) := blk_cell HN.out 1; have y2 : w3.cell? ⟨g, 2, none⟩ = some (.int .i64 n.f2) := blk_cell HN.out 2; have y3 : w3.cell? ⟨g, 3, none⟩ = some (.int .i64 n.f3) := blk_cell HN.out 3; have y4 : w3.cell? ⟨g, 4, none⟩ = some (.string n.f4) := blk_cell HN.out 4; have hlt : g < w3.heap.size := blk_lt HN.out; have hne : g ≠ w3.heap.size := Nat.ne_of_lt hlt; clear hb3) | (at_lookup; refine wpList_lookup_ok _ rfl _ _ 46 rfl 3 51 (KeyOK.int .i64) Try.underlying46 Try.underlying3 (zero51 _) rfl HM.out n.f0 rfl _ hv0.out _ hb0.out ?_) | (at_lookup; refine wpList_lookup_ok _ rfl _ _ 46 rfl 3 51 (KeyOK.int .i64) Try.underlying46 Try.underlying3 (zero51 _) rfl (HM.out.alloc _) n.f1 rfl _ hv1.out _ hb1.out ?_))
         have HBn := Aside0.mk (below_alloc (below_alloc HB.out (.cells #[.int .i64 0, .int .i64 0] 51)) (.cells #[.int .i64 p1, .int .i64 p2] 51))
         have HMn := Aside0.mk ((HM.out.alloc (.cells #[.int .i64 0, .int .i64 0] 51)).alloc (.cells #[.int .i64 p1, .int .i64 p2] 51))
         have HNn := Aside0.mk (blk_alloc (blk_alloc HN.out (.cells #[.int .i64 0, .int .i64 0] 51)) (.cells #[.int .i64 p1, .int .i64 p2] 51))
         have HTn := Aside0.mk (show ((w3.alloc (.cells #[.int .i64 0, .int .i64 0] 51)).alloc (.cells #[.int .i64 p1, .int .i64 p2] 51)).heap[w3.heap.size + 1]? = some (.cells #[.int .i64 p1, .int .i64 p2] 51 (0, 0)) from by have h_ := heap_alloc_new (w3.alloc (.cells #[.int .i64 0, .int .i64 0] 51)) (.cells #[.int .i64 p1, .int .i64 p2] 51); simpa using h_)
         clear HB HM HN y0 y1 y2 y3 y4 hlt hne
         generalize (w3.alloc (.cells #[.int .i64 0, .int .i64 0] 51)).alloc (.cells #[.int .i64 p1, .int .i64 p2] 51) = W at HBn HMn HNn HTn ⊢
         generalize w3.heap.size + 1 = t at HTn ⊢
         have HB := HBn
         have HM := HMn
         have HN := HNn
         have HT := HTn
         clear HBn HMn HNn HTn
         have y0 : W.cell? ⟨g, 0, none⟩ = some (.int .i64 n.f0) := blk_cell HN.out 0
         have y1 : W.cell? ⟨g, 1, none⟩ = some (.int .i64 n.f1) := blk_cell HN.out 1
         have y2 : W.cell? ⟨g, 2, none⟩ = some (.int .i64 n.f2) := blk_cell HN.out 2
         have y3 : W.cell? ⟨g, 3, none⟩ = some (.int .i64 n.f3) := blk_cell HN.out 3
         have y4 : W.cell? ⟨g, 4, none⟩ = some (.string n.f4) := blk_cell HN.out 4
         have hlt : g < W.heap.size := blk_lt HN.out
         have hne : g ≠ W.heap.size := Nat.ne_of_lt hlt
         refine (tree_kids.calls 4001 _ c0 l0 n.f1 (kidsL l0 n.f1) W (Kd.C_below HR.out HB.out) HC0.out (kids_f _ _ HL.out)).mono ?_
         rintro e w5 ⟨v5, rfl, hR5, hb5⟩
         obtain ⟨A5, c5, rfl⟩ := Kd.R_slice hR5
         have HK := Aside0.mk (Kd.R_reads' hR5)
         clear hR5
         have HBn := Aside0.mk (HB.out.trans (hb5.mono HB.out.size))
         have HMn := Aside0.mk (HM.out.below hb5)
         have HNn := Aside0.mk ((hb5.block g (blk_lt HN.out)).trans HN.out)
         have HTn := Aside0.mk ((hb5.block t (blk_lt HT.out)).trans HT.out)
         clear HB HM HN HT y0 y1 y2 y3 y4 hlt hne
         have HB := HBn
         have HM := HMn
         have HN := HNn
         have HT := HTn
         clear HBn HMn HNn HTn
         have y0 : w5.cell? ⟨g, 0, none⟩ = some (.int .i64 n.f0) := blk_cell HN.out 0
         have y1 : w5.cell? ⟨g, 1, none⟩ = some (.int .i64 n.f1) := blk_cell HN.out 1
         have y2 : w5.cell? ⟨g, 2, none⟩ = some (.int .i64 n.f2) := blk_cell HN.out 2
         have y3 : w5.cell? ⟨g, 3, none⟩ = some (.int .i64 n.f3) := blk_cell HN.out 3
         have y4 : w5.cell? ⟨g, 4, none⟩ = some (.string n.f4) := blk_cell HN.out 4
         have hlt : g < w5.heap.size := blk_lt HN.out
         have hne : g ≠ w5.heap.size := Nat.ne_of_lt hlt
         clear hb5
         go_wp2_with (first | (go_at_call 43; (with_reducible refine (slices_Contains_int_int.calls 4001 A5 c5 (kidsL l0 n.f1) b true _ HK.out.2.2 HK.out.2.1 hin.out).mono ?_); rintro e w6 ⟨rfl, hd⟩; have HBn := Aside0.mk (HB.out.trans (hd.below.mono HB.out.size)); have HMn := Aside0.mk (HM.out.below hd.below); have HNn := Aside0.mk ((hd.below.block g (blk_lt HN.out)).trans HN.out); have HTn := Aside0.mk ((hd.below.block t (blk_lt HT.out)).trans HT.out); clear HB HM HN HT y0 y1 y2 y3 y4 hlt hne; have HB := HBn; have HM := HMn; have HN := HNn; have HT := HTn; clear HBn HMn HNn HTn; have y0 : w6.cell? ⟨g, 0, none⟩ = some (.int .i64 n.f0) := blk_cell HN.out 0; have y1 : w6.cell? ⟨g, 1, none⟩ = some (.int .i64 n.f1) := blk_cell HN.out 1; have y2 : w6.cell? ⟨g, 2, none⟩ = some (.int .i64 n.f2) := blk_cell HN.out 2; have y3 : w6.cell? ⟨g, 3, none⟩ = some (.int .i64 n.f3) := blk_cell HN.out 3; have y4 : w6.cell? ⟨g, 4, none⟩ = some (.string n.f4) := blk_cell HN.out 4; have hlt : g < w6.heap.size := blk_lt HN.out; have hne : g ≠ w6.heap.size := Nat.ne_of_lt hlt; clear hd))
         obtain ⟨W, rfl⟩ : ∃ W0 : World, W0 = w6 := ⟨_, rfl⟩
         have zt0 : W.cell? ⟨t, 0, none⟩ = some (.int .i64 p1) := blk_cell HT.out 0
         have zt1 : W.cell? ⟨t, 1, none⟩ = some (.int .i64 p2) := blk_cell HT.out 1
         have htlt := blk_lt HT.out
         obtain ⟨ad, e2, _, _, zk, _, _⟩ := at_T24 (Kd.C_below HR.out HB.out) p1 hp1a hp1b
         subst e2
         obtain ⟨kk, hkk⟩ : ∃ kk, kk = (rd_T24 l0 p1).f2 := ⟨_, rfl⟩
         rw [← hkk] at zk
         have Hkk := Aside0.mk hkk
         clear hkk
         by_cases hs : standsB n.f2 kk = true
         ·have hst : Aside0 (tree_stands.f n.f2 kk = some true) := ⟨by rw [stands_f, hs]⟩
          have hsf : Aside0 (standsB n.f2 (rd_T24 l0 p1).f2 = true) := ⟨by rw [← Hkk.out]; exact hs⟩
          clear hs
          refine start_ (n := 11) (S := fun w' => w'.cell? ⟨g, 2, none⟩ = some (.int .i64 n.f2) ∧ w'.cell? ⟨t, 0, none⟩ = some (.int .i64 p1) ∧ w'.cell? ⟨(ad.add (p1.toNat * 5)).block, (ad.add (p1.toNat * 5)).off + 2, none⟩ = some (.int .i64 kk)) (ds := []) #[false, false, false, false, false, false, false, false, false, false, false] (by kernel_rfl) rfl rfl ⟨(((below_drew1 (Below.refl W.heap.size W)).cell (p := ⟨g, 2, none⟩) hlt).trans y2), (((below_drew1 (Below.refl W.heap.size W)).cell (p := ⟨t, 0, none⟩) htlt).trans zt0), (((below_drew1 (Below.refl W.heap.size W)).cell (p := ⟨(ad.add (p1.toNat * 5)).block, (ad.add (p1.toNat * 5)).off + 2, none⟩) (World.block_lt_of_cell? W _ zk)).trans zk)⟩ (fun hHeld => ?_)
          refine with_tabW insert_r.tab12 insert_r.bits12 (fun HT_ HW_ => ?_)
          refine pure_ (i := 0) (N := some 71) (v := ?_) (a' := ?_) #[true, false, false, false, false, false, false, false, false, false, false] rfl rfl (any_of HT_.out (by kernel_rfl)) (fun _ _ _ h => h) (Or.inl ⟨by rfl, ?_⟩) ?_ ?_
          rotate_left
          ·intro w'
           go_simp
           with_reducible rfl
          rotate_left
          ·simp only [Act.put, List.setIfInBounds_toArray, List.set_cons_zero, List.set_cons_succ, i64_w, i32_w]
           rfl
          refine pure_ (i := 2) (N := some 73) (v := ?_) (a' := ?_) #[true, false, true, false, false, false, false, false, false, false, false] rfl rfl (any_of HT_.out (by kernel_rfl)) (fun _ _ _ h => h) (Or.inl ⟨by rfl, ?_⟩) ?_ ?_
          rotate_left
          ·intro w'
           go_simp
           with_reducible rfl
          rotate_left
          ·simp only [Act.put, List.setIfInBounds_toArray, List.set_cons_zero, List.set_cons_succ, i64_w, i32_w]
           rfl
          refine pure_ (i := 3) (N := some 74) (v := ?_) (a' := ?_) #[true, false, true, true, false, false, false, false, false, false, false] rfl rfl (any_of HT_.out (by kernel_rfl)) (fun _ _ _ h => h) (Or.inl ⟨by rfl, ?_⟩) ?_ ?_
          rotate_left
          ·intro w'
           go_simp
           with_reducible rfl
          rotate_left
          ·simp only [Act.put, List.setIfInBounds_toArray, List.set_cons_zero, List.set_cons_succ, i64_w, i32_w]
           rfl
          refine take_ (i := 1) (N := some 72) (v := ?_) (a' := ?_) #[true, true, true, true, false, false, false, false, false, false, false] rfl rfl (take_ofW HT_.out HW_.out (by kernel_rfl)) (fun _ _ _ h => h) (Or.inl ⟨by rfl, ?_⟩) hHeld ?_ ?_
          rotate_left
          ·rintro w' ⟨s0, s1, s2⟩
           go_simp
           with_reducible rfl
          rotate_left
          ·simp only [Act.put, List.setIfInBounds_toArray, List.set_cons_zero, List.set_cons_succ, i64_w, i32_w]
           rfl
          refine take_ (i := 4) (N := some 75) (v := ?_) (a' := ?_) #[true, true, true, true, true, false, false, false, false, false, false] rfl rfl (take_ofW HT_.out HW_.out (by kernel_rfl)) (fun _ _ _ h => h) (Or.inl ⟨by rfl, ?_⟩) hHeld ?_ ?_
          rotate_left
          ·rintro w' ⟨s0, s1, s2⟩
           go_simp
           with_reducible rfl
          rotate_left
          ·simp only [Act.put, List.setIfInBounds_toArray, List.set_cons_zero, List.set_cons_succ, i64_w, i32_w]
           rfl
          refine pure_ (i := 5) (N := some 76) (v := ?_) (a' := ?_) #[true, true, true, true, true, true, false, false, false, false, false] rfl rfl (any_of HT_.out (by kernel_rfl)) (fun _ _ _ h => h) (Or.inl ⟨by rfl, ?_⟩) ?_ ?_
          rotate_left
          ·intro w'
           go_simp
           with_reducible rfl
          rotate_left
          ·simp only [Act.put, List.setIfInBounds_toArray, List.set_cons_zero, List.set_cons_succ, i64_w, i32_w]
           rfl
          refine pure_ (i := 6) (N := some 77) (v := ?_) (a' := ?_) #[true, true, true, true, true, true, true, false, false, false, false] rfl rfl (any_of HT_.out (by kernel_rfl)) (fun _ _ _ h => h) (Or.inl ⟨by rfl, ?_⟩) ?_ ?_
          rotate_left
          ·intro w'
           go_simp
           with_reducible rfl
          rotate_left
          ·simp only [Act.put, List.setIfInBounds_toArray, List.set_cons_zero, List.set_cons_succ, i64_w, i32_w]
           rfl
          refine take_ (i := 7) (N := some 78) (v := ?_) (a' := ?_) #[true, true, true, true, true, true, true, true, false, false, false] rfl rfl (take_ofW HT_.out HW_.out (by kernel_rfl)) (fun _ _ _ h => h) (Or.inl ⟨by rfl, ?_⟩) hHeld ?_ ?_
          rotate_left
          ·rintro w' ⟨s0, s1, s2⟩
           go_simp
           with_reducible rfl
          rotate_left
          ·simp only [Act.put, List.setIfInBounds_toArray, List.set_cons_zero, List.set_cons_succ, i64_w, i32_w]
           rfl
          refine one_ (i := 8) (N := some 79) #[true, true, true, true, true, true, true, true, true, false, false] rfl rfl (one_of HT_.out (by kernel_rfl)) (by decide) (fun K hK => ?_)
          refine goes_ Try.func44 (by kernel_rfl) rfl #[.int .i64 n.f2, .int .i64 kk] (by rfl) rfl rfl (by simp only [List.map_toArray, List.map_cons, List.map_nil]; rfl) ?_
          with_reducible refine (tree_stands.calls n.f2 kk true _ hst.out).mono ?_
          rintro e w7 ⟨rfl, hds⟩
          refine ⟨_, rfl, ?_⟩
          have hb7 : Below W.heap.size W w7 := (below_drew1 (Below.refl _ W)).trans hds.below
          refine hK.out _ _ ⟨((hb7.cell (p := ⟨g, 2, none⟩) hlt).trans y2), ((hb7.cell (p := ⟨t, 0, none⟩) htlt).trans zt0), ((hb7.cell (p := ⟨(ad.add (p1.toNat * 5)).block, (ad.add (p1.toNat * 5)).off + 2, none⟩) (World.block_lt_of_cell? W _ zk)).trans zk)⟩ (fun hHeld => ?_)
          clear hK K
          refine norm_ (a' := ?_) ?_ ?_
          rotate_left
          ·show Act.put _ (some 79) _ = _
           simp only [Act.put, List.setIfInBounds_toArray, List.set_cons_zero, List.set_cons_succ, i64_w, i32_w]
           rfl
          refine pure_ (i := 9) (N := some 80) (v := ?_) (a' := ?_) #[true, true, true, true, true, true, true, true, true, true, false] rfl rfl (any_of HT_.out (by kernel_rfl)) (fun _ _ _ h => h) (Or.inl ⟨by rfl, ?_⟩) ?_ ?_
          rotate_left
          ·intro w'
           go_simp
           with_reducible rfl
          rotate_left
          ·simp only [Act.put, List.setIfInBounds_toArray, List.set_cons_zero, List.set_cons_succ, i64_w, i32_w]
           rfl
          refine pure_ (i := 10) (N := some 70) (v := ?_) (a' := ?_) #[true, true, true, true, true, true, true, true, true, true, true] rfl rfl (any_of HT_.out (by kernel_rfl)) (fun _ _ _ h => h) (Or.inl ⟨by rfl, ?_⟩) ?_ ?_
          rotate_left
          ·intro w'
           go_simp
           with_reducible rfl
          rotate_left
          ·simp only [Act.put, List.setIfInBounds_toArray, List.set_cons_zero, List.set_cons_succ, i64_w, i32_w]
           rfl
          refine done_ (done_of HT_.out (by kernel_rfl)) ?_

          have HBn := Aside0.mk (HB.out.trans (hb7.mono HB.out.size))
          have HMn := Aside0.mk (HM.out.below hb7)
          have HNn := Aside0.mk ((hb7.block g (blk_lt HN.out)).trans HN.out)
          have HTn := Aside0.mk ((hb7.block t (blk_lt HT.out)).trans HT.out)
          clear HB HM HN HT y0 y1 y2 y3 y4 hlt hne
          have HB := HBn
          have HM := HMn
          have HN := HNn
          have HT := HTn
          clear HBn HMn HNn HTn
          have y0 : w7.cell? ⟨g, 0, none⟩ = some (.int .i64 n.f0) := blk_cell HN.out 0
          have y1 : w7.cell? ⟨g, 1, none⟩ = some (.int .i64 n.f1) := blk_cell HN.out 1
          have y2 : w7.cell? ⟨g, 2, none⟩ = some (.int .i64 n.f2) := blk_cell HN.out 2
          have y3 : w7.cell? ⟨g, 3, none⟩ = some (.int .i64 n.f3) := blk_cell HN.out 3
          have y4 : w7.cell? ⟨g, 4, none⟩ = some (.string n.f4) := blk_cell HN.out 4
          have hlt : g < w7.heap.size := blk_lt HN.out
          have hne : g ≠ w7.heap.size := Nat.ne_of_lt hlt
          have zt3 : w7.cell? ⟨t, 1, none⟩ = some (.int .i64 p2) := blk_cell HT.out 1
          clear zt0 zt1 zk htlt hb7
          by_cases h4 : l0.length = 4000
          ·have h4b : ((l0.length : Int) == 4000) = true := by simp; omega
           have H2 := HP.out
           unfold insertP at H2
           rw [HD.out] at H2
           simp [hbz, hidb, Hf.out, Hp0.out, Hm0.out, Hm1.out, hsf.out, h4, Hk.out] at H2
           obtain ⟨rfl, rfl⟩ := H2
           clear h4 HP
           go_wp2
           go_ret2
           exact ⟨_, rfl, Kd.R_nil _ _ _ _ _, HB.out⟩
          ·have h4b : ((l0.length : Int) == 4000) = false := by simp; omega
           by_cases h30 : p2 = 30
           ·have h30b : (p2 == 30) = true := by simpa using h30
            have H2 := HP.out
            unfold insertP at H2
            rw [HD.out] at H2
            simp [hbz, hidb, Hf.out, Hp0.out, Hm0.out, Hm1.out, hsf.out, h4, h30, Hk.out] at H2
            obtain ⟨rfl, rfl⟩ := H2
            clear h4 h30 HP
            go_wp2
            go_ret2
            exact ⟨_, rfl, Kd.R_nil _ _ _ _ _, HB.out⟩
           ·have h30b : (p2 == 30) = false := by simpa using h30
            have H2 := HP.out
            unfold insertP at H2
            rw [HD.out] at H2
            simp [hbz, hidb, Hf.out, Hp0.out, Hm0.out, Hm1.out, hsf.out, h4, h30, Hk.out] at H2
            obtain ⟨q, hput, rfl, rfl⟩ := H2
            have HPut := Aside0.mk hput
            clear h4 h30 HP hput
            go_wp2_with (first | (go_at_call 45; (refine (put_calls _ c0 l0 (some ⟨w7.heap.size, 0, none⟩) 1 [n] _ _ _ (Kd.C_alloc (Kd.C_below HR.out HB.out) _) HC0.out (C_one w7 n) (Nat.le_refl _) (by have := HL.out; simp <;> omega) HPut.out).mono ?_); rintro e w8 ⟨v8, rfl, hR8, hb8⟩))
            go_ret2
            exact ⟨_, rfl, Kd.R_lower hR8 (by have := HB.out.size; simp; omega), (below_alloc HB.out _).trans (hb8.mono (by have := HB.out.size; simp; omega))⟩
         ·have hst : Aside0 (tree_stands.f n.f2 kk = some false) := ⟨by rw [stands_f]; simpa using hs⟩
          have hsf : Aside0 (standsB n.f2 (rd_T24 l0 p1).f2 = false) := ⟨by rw [← Hkk.out]; simpa using hs⟩
          clear hs
          have H2 := HP.out
          unfold insertP at H2
          rw [HD.out] at H2
          simp [hbz, hidb, Hf.out, Hp0.out, Hm0.out, Hm1.out, hsf.out, Hk.out] at H2
          obtain ⟨rfl, rfl⟩ := H2
          clear HP
          refine start_ (n := 11) (S := fun w' => w'.cell? ⟨g, 2, none⟩ = some (.int .i64 n.f2) ∧ w'.cell? ⟨t, 0, none⟩ = some (.int .i64 p1) ∧ w'.cell? ⟨(ad.add (p1.toNat * 5)).block, (ad.add (p1.toNat * 5)).off + 2, none⟩ = some (.int .i64 kk)) (ds := []) #[false, false, false, false, false, false, false, false, false, false, false] (by kernel_rfl) rfl rfl ⟨(((below_drew1 (Below.refl W.heap.size W)).cell (p := ⟨g, 2, none⟩) hlt).trans y2), (((below_drew1 (Below.refl W.heap.size W)).cell (p := ⟨t, 0, none⟩) htlt).trans zt0), (((below_drew1 (Below.refl W.heap.size W)).cell (p := ⟨(ad.add (p1.toNat * 5)).block, (ad.add (p1.toNat * 5)).off + 2, none⟩) (World.block_lt_of_cell? W _ zk)).trans zk)⟩ (fun hHeld => ?_)
          refine with_tabW insert_r.tab12 insert_r.bits12 (fun HT_ HW_ => ?_)
          refine pure_ (i := 0) (N := some 71) (v := ?_) (a' := ?_) #[true, false, false, false, false, false, false, false, false, false, false] rfl rfl (any_of HT_.out (by kernel_rfl)) (fun _ _ _ h => h) (Or.inl ⟨by rfl, ?_⟩) ?_ ?_
          rotate_left
          ·intro w'
           go_simp
           with_reducible rfl
          rotate_left
          ·simp only [Act.put, List.setIfInBounds_toArray, List.set_cons_zero, List.set_cons_succ, i64_w, i32_w]
           rfl
          refine pure_ (i := 2) (N := some 73) (v := ?_) (a' := ?_) #[true, false, true, false, false, false, false, false, false, false, false] rfl rfl (any_of HT_.out (by kernel_rfl)) (fun _ _ _ h => h) (Or.inl ⟨by rfl, ?_⟩) ?_ ?_
          rotate_left
          ·intro w'
           go_simp
           with_reducible rfl
          rotate_left
          ·simp only [Act.put, List.setIfInBounds_toArray, List.set_cons_zero, List.set_cons_succ, i64_w, i32_w]
           rfl
          refine pure_ (i := 3) (N := some 74) (v := ?_) (a' := ?_) #[true, false, true, true, false, false, false, false, false, false, false] rfl rfl (any_of HT_.out (by kernel_rfl)) (fun _ _ _ h => h) (Or.inl ⟨by rfl, ?_⟩) ?_ ?_
          rotate_left
          ·intro w'
           go_simp
           with_reducible rfl
          rotate_left
          ·simp only [Act.put, List.setIfInBounds_toArray, List.set_cons_zero, List.set_cons_succ, i64_w, i32_w]
           rfl
          refine take_ (i := 1) (N := some 72) (v := ?_) (a' := ?_) #[true, true, true, true, false, false, false, false, false, false, false] rfl rfl (take_ofW HT_.out HW_.out (by kernel_rfl)) (fun _ _ _ h => h) (Or.inl ⟨by rfl, ?_⟩) hHeld ?_ ?_
          rotate_left
          ·rintro w' ⟨s0, s1, s2⟩
           go_simp
           with_reducible rfl
          rotate_left
          ·simp only [Act.put, List.setIfInBounds_toArray, List.set_cons_zero, List.set_cons_succ, i64_w, i32_w]
           rfl
          refine take_ (i := 4) (N := some 75) (v := ?_) (a' := ?_) #[true, true, true, true, true, false, false, false, false, false, false] rfl rfl (take_ofW HT_.out HW_.out (by kernel_rfl)) (fun _ _ _ h => h) (Or.inl ⟨by rfl, ?_⟩) hHeld ?_ ?_
          rotate_left
          ·rintro w' ⟨s0, s1, s2⟩
           go_simp
           with_reducible rfl
          rotate_left
          ·simp only [Act.put, List.setIfInBounds_toArray, List.set_cons_zero, List.set_cons_succ, i64_w, i32_w]
           rfl
          refine pure_ (i := 5) (N := some 76) (v := ?_) (a' := ?_) #[true, true, true, true, true, true, false, false, false, false, false] rfl rfl (any_of HT_.out (by kernel_rfl)) (fun _ _ _ h => h) (Or.inl ⟨by rfl, ?_⟩) ?_ ?_
          rotate_left
          ·intro w'
           go_simp
           with_reducible rfl
          rotate_left
          ·simp only [Act.put, List.setIfInBounds_toArray, List.set_cons_zero, List.set_cons_succ, i64_w, i32_w]
           rfl
          refine pure_ (i := 6) (N := some 77) (v := ?_) (a' := ?_) #[true, true, true, true, true, true, true, false, false, false, false] rfl rfl (any_of HT_.out (by kernel_rfl)) (fun _ _ _ h => h) (Or.inl ⟨by rfl, ?_⟩) ?_ ?_
          rotate_left
          ·intro w'
           go_simp
           with_reducible rfl
          rotate_left
          ·simp only [Act.put, List.setIfInBounds_toArray, List.set_cons_zero, List.set_cons_succ, i64_w, i32_w]
           rfl
          refine take_ (i := 7) (N := some 78) (v := ?_) (a' := ?_) #[true, true, true, true, true, true, true, true, false, false, false] rfl rfl (take_ofW HT_.out HW_.out (by kernel_rfl)) (fun _ _ _ h => h) (Or.inl ⟨by rfl, ?_⟩) hHeld ?_ ?_
          rotate_left
          ·rintro w' ⟨s0, s1, s2⟩
           go_simp
           with_reducible rfl
          rotate_left
          ·simp only [Act.put, List.setIfInBounds_toArray, List.set_cons_zero, List.set_cons_succ, i64_w, i32_w]
           rfl
          refine one_ (i := 8) (N := some 79) #[true, true, true, true, true, true, true, true, true, false, false] rfl rfl (one_of HT_.out (by kernel_rfl)) (by decide) (fun K hK => ?_)
          refine goes_ Try.func44 (by kernel_rfl) rfl #[.int .i64 n.f2, .int .i64 kk] (by rfl) rfl rfl (by simp only [List.map_toArray, List.map_cons, List.map_nil]; rfl) ?_
          with_reducible refine (tree_stands.calls n.f2 kk false _ hst.out).mono ?_
          rintro e w7 ⟨rfl, hds⟩
          refine ⟨_, rfl, ?_⟩
          have hb7 : Below W.heap.size W w7 := (below_drew1 (Below.refl _ W)).trans hds.below
          refine hK.out _ _ ⟨((hb7.cell (p := ⟨g, 2, none⟩) hlt).trans y2), ((hb7.cell (p := ⟨t, 0, none⟩) htlt).trans zt0), ((hb7.cell (p := ⟨(ad.add (p1.toNat * 5)).block, (ad.add (p1.toNat * 5)).off + 2, none⟩) (World.block_lt_of_cell? W _ zk)).trans zk)⟩ (fun hHeld => ?_)
          clear hK K
          refine norm_ (a' := ?_) ?_ ?_
          rotate_left
          ·show Act.put _ (some 79) _ = _
           simp only [Act.put, List.setIfInBounds_toArray, List.set_cons_zero, List.set_cons_succ, i64_w, i32_w]
           rfl
          refine pure_ (i := 9) (N := some 80) (v := ?_) (a' := ?_) #[true, true, true, true, true, true, true, true, true, true, false] rfl rfl (any_of HT_.out (by kernel_rfl)) (fun _ _ _ h => h) (Or.inl ⟨by rfl, ?_⟩) ?_ ?_
          rotate_left
          ·intro w'
           go_simp
           with_reducible rfl
          rotate_left
          ·simp only [Act.put, List.setIfInBounds_toArray, List.set_cons_zero, List.set_cons_succ, i64_w, i32_w]
           rfl
          refine pure_ (i := 10) (N := some 70) (v := ?_) (a' := ?_) #[true, true, true, true, true, true, true, true, true, true, true] rfl rfl (any_of HT_.out (by kernel_rfl)) (fun _ _ _ h => h) (Or.inl ⟨by rfl, ?_⟩) ?_ ?_
          rotate_left
          ·intro w'
           go_simp
           with_reducible rfl
          rotate_left
          ·simp only [Act.put, List.setIfInBounds_toArray, List.set_cons_zero, List.set_cons_succ, i64_w, i32_w]
           rfl
          refine done_ (done_of HT_.out (by kernel_rfl)) ?_

          have HBn := Aside0.mk (HB.out.trans (hb7.mono HB.out.size))
          have HMn := Aside0.mk (HM.out.below hb7)
          have HNn := Aside0.mk ((hb7.block g (blk_lt HN.out)).trans HN.out)
          have HTn := Aside0.mk ((hb7.block t (blk_lt HT.out)).trans HT.out)
          clear HB HM HN HT y0 y1 y2 y3 y4 hlt hne
          have HB := HBn
          have HM := HMn
          have HN := HNn
          have HT := HTn
          clear HBn HMn HNn HTn
          have y0 : w7.cell? ⟨g, 0, none⟩ = some (.int .i64 n.f0) := blk_cell HN.out 0
          have y1 : w7.cell? ⟨g, 1, none⟩ = some (.int .i64 n.f1) := blk_cell HN.out 1
          have y2 : w7.cell? ⟨g, 2, none⟩ = some (.int .i64 n.f2) := blk_cell HN.out 2
          have y3 : w7.cell? ⟨g, 3, none⟩ = some (.int .i64 n.f3) := blk_cell HN.out 3
          have y4 : w7.cell? ⟨g, 4, none⟩ = some (.string n.f4) := blk_cell HN.out 4
          have hlt : g < w7.heap.size := blk_lt HN.out
          have hne : g ≠ w7.heap.size := Nat.ne_of_lt hlt
          clear zt0 zt1 zk htlt hb7
          go_wp2
          go_ret2
          exact ⟨_, rfl, Kd.R_nil _ _ _ _ _, HB.out⟩
        ·have hin : Aside0 (slices_Contains_int_int.f 4001 (kidsL l0 n.f1) b = some false) := ⟨by rw [contains_f _ _ (Nat.le_trans (kidsL_len _ _) HL.out)]; simpa using hk⟩
         have H2 := HP.out
         unfold insertP at H2
         rw [HD.out] at H2
         simp [hbz, hidb, Hf.out, Hp0.out, Hm0.out, Hm1.out, hk] at H2
         obtain ⟨rfl, rfl⟩ := H2
         clear hk HP
         go_wp2_with (first | (go_at_call 32; (with_reducible refine (tree_isID.calls b true _ hid.out).mono ?_); rintro e w2 ⟨rfl, hd⟩; have HBn := Aside0.mk (HB.out.trans (hd.below.mono HB.out.size)); have HMn := Aside0.mk (HM.out.below hd.below); have HNn := Aside0.mk ((hd.below.block g (blk_lt HN.out)).trans HN.out); clear HB HM HN y0 y1 y2 y3 y4 hlt hne; have HB := HBn; have HM := HMn; have HN := HNn; clear HBn HMn HNn; have y0 : w2.cell? ⟨g, 0, none⟩ = some (.int .i64 n.f0) := blk_cell HN.out 0; have y1 : w2.cell? ⟨g, 1, none⟩ = some (.int .i64 n.f1) := blk_cell HN.out 1; have y2 : w2.cell? ⟨g, 2, none⟩ = some (.int .i64 n.f2) := blk_cell HN.out 2; have y3 : w2.cell? ⟨g, 3, none⟩ = some (.int .i64 n.f3) := blk_cell HN.out 3; have y4 : w2.cell? ⟨g, 4, none⟩ = some (.string n.f4) := blk_cell HN.out 4; have hlt : g < w2.heap.size := blk_lt HN.out; have hne : g ≠ w2.heap.size := Nat.ne_of_lt hlt; clear hd) | (go_at_call 42; (with_reducible refine (tree_formed.calls n.f0 n.f1 n.f2 n.f3 n.f4 true _ hff.out).mono ?_); rintro e w3 ⟨rfl, hb3⟩; have HBn := Aside0.mk (HB.out.trans (hb3.mono HB.out.size)); have HMn := Aside0.mk (HM.out.below hb3); have HNn := Aside0.mk ((hb3.block g (blk_lt HN.out)).trans HN.out); clear HB HM HN y0 y1 y2 y3 y4 hlt hne; have HB := HBn; have HM := HMn; have HN := HNn; clear HBn HMn HNn; have y0 : w3.cell? ⟨g, 0, none⟩ = some (.int .i64 n.f0) := blk_cell HN.out 0; have y1 : w3.cell? ⟨g, 1, none⟩ = some (.int .i64 n.f1) := blk_cell HN.out 1; have y2 : w3.cell? ⟨g, 2, none⟩ = some (.int .i64 n.f2) := blk_cell HN.out 2; have y3 : w3.cell? ⟨g, 3, none⟩ = some (.int .i64 n.f3) := blk_cell HN.out 3; have y4 : w3.cell? ⟨g, 4, none⟩ = some (.string n.f4) := blk_cell HN.out 4; have hlt : g < w3.heap.size := blk_lt HN.out; have hne : g ≠ w3.heap.size := Nat.ne_of_lt hlt; clear hb3) | (at_lookup; refine wpList_lookup_ok _ rfl _ _ 46 rfl 3 51 (KeyOK.int .i64) Try.underlying46 Try.underlying3 (zero51 _) rfl HM.out n.f0 rfl _ hv0.out _ hb0.out ?_) | (at_lookup; refine wpList_lookup_ok _ rfl _ _ 46 rfl 3 51 (KeyOK.int .i64) Try.underlying46 Try.underlying3 (zero51 _) rfl (HM.out.alloc _) n.f1 rfl _ hv1.out _ hb1.out ?_))
         have HBn := Aside0.mk (below_alloc (below_alloc HB.out (.cells #[.int .i64 0, .int .i64 0] 51)) (.cells #[.int .i64 p1, .int .i64 p2] 51))
         have HMn := Aside0.mk ((HM.out.alloc (.cells #[.int .i64 0, .int .i64 0] 51)).alloc (.cells #[.int .i64 p1, .int .i64 p2] 51))
         have HNn := Aside0.mk (blk_alloc (blk_alloc HN.out (.cells #[.int .i64 0, .int .i64 0] 51)) (.cells #[.int .i64 p1, .int .i64 p2] 51))
         have HTn := Aside0.mk (show ((w3.alloc (.cells #[.int .i64 0, .int .i64 0] 51)).alloc (.cells #[.int .i64 p1, .int .i64 p2] 51)).heap[w3.heap.size + 1]? = some (.cells #[.int .i64 p1, .int .i64 p2] 51 (0, 0)) from by have h_ := heap_alloc_new (w3.alloc (.cells #[.int .i64 0, .int .i64 0] 51)) (.cells #[.int .i64 p1, .int .i64 p2] 51); simpa using h_)
         clear HB HM HN y0 y1 y2 y3 y4 hlt hne
         generalize (w3.alloc (.cells #[.int .i64 0, .int .i64 0] 51)).alloc (.cells #[.int .i64 p1, .int .i64 p2] 51) = W at HBn HMn HNn HTn ⊢
         generalize w3.heap.size + 1 = t at HTn ⊢
         have HB := HBn
         have HM := HMn
         have HN := HNn
         have HT := HTn
         clear HBn HMn HNn HTn
         have y0 : W.cell? ⟨g, 0, none⟩ = some (.int .i64 n.f0) := blk_cell HN.out 0
         have y1 : W.cell? ⟨g, 1, none⟩ = some (.int .i64 n.f1) := blk_cell HN.out 1
         have y2 : W.cell? ⟨g, 2, none⟩ = some (.int .i64 n.f2) := blk_cell HN.out 2
         have y3 : W.cell? ⟨g, 3, none⟩ = some (.int .i64 n.f3) := blk_cell HN.out 3
         have y4 : W.cell? ⟨g, 4, none⟩ = some (.string n.f4) := blk_cell HN.out 4
         have hlt : g < W.heap.size := blk_lt HN.out
         have hne : g ≠ W.heap.size := Nat.ne_of_lt hlt
         refine (tree_kids.calls 4001 _ c0 l0 n.f1 (kidsL l0 n.f1) W (Kd.C_below HR.out HB.out) HC0.out (kids_f _ _ HL.out)).mono ?_
         rintro e w5 ⟨v5, rfl, hR5, hb5⟩
         obtain ⟨A5, c5, rfl⟩ := Kd.R_slice hR5
         have HK := Aside0.mk (Kd.R_reads' hR5)
         clear hR5
         have HBn := Aside0.mk (HB.out.trans (hb5.mono HB.out.size))
         have HMn := Aside0.mk (HM.out.below hb5)
         have HNn := Aside0.mk ((hb5.block g (blk_lt HN.out)).trans HN.out)
         have HTn := Aside0.mk ((hb5.block t (blk_lt HT.out)).trans HT.out)
         clear HB HM HN HT y0 y1 y2 y3 y4 hlt hne
         have HB := HBn
         have HM := HMn
         have HN := HNn
         have HT := HTn
         clear HBn HMn HNn HTn
         have y0 : w5.cell? ⟨g, 0, none⟩ = some (.int .i64 n.f0) := blk_cell HN.out 0
         have y1 : w5.cell? ⟨g, 1, none⟩ = some (.int .i64 n.f1) := blk_cell HN.out 1
         have y2 : w5.cell? ⟨g, 2, none⟩ = some (.int .i64 n.f2) := blk_cell HN.out 2
         have y3 : w5.cell? ⟨g, 3, none⟩ = some (.int .i64 n.f3) := blk_cell HN.out 3
         have y4 : w5.cell? ⟨g, 4, none⟩ = some (.string n.f4) := blk_cell HN.out 4
         have hlt : g < w5.heap.size := blk_lt HN.out
         have hne : g ≠ w5.heap.size := Nat.ne_of_lt hlt
         clear hb5
         go_wp2_with (first | (go_at_call 43; (with_reducible refine (slices_Contains_int_int.calls 4001 A5 c5 (kidsL l0 n.f1) b false _ HK.out.2.2 HK.out.2.1 hin.out).mono ?_); rintro e w6 ⟨rfl, hd⟩; have HBn := Aside0.mk (HB.out.trans (hd.below.mono HB.out.size)); have HMn := Aside0.mk (HM.out.below hd.below); have HNn := Aside0.mk ((hd.below.block g (blk_lt HN.out)).trans HN.out); have HTn := Aside0.mk ((hd.below.block t (blk_lt HT.out)).trans HT.out); clear HB HM HN HT y0 y1 y2 y3 y4 hlt hne; have HB := HBn; have HM := HMn; have HN := HNn; have HT := HTn; clear HBn HMn HNn HTn; have y0 : w6.cell? ⟨g, 0, none⟩ = some (.int .i64 n.f0) := blk_cell HN.out 0; have y1 : w6.cell? ⟨g, 1, none⟩ = some (.int .i64 n.f1) := blk_cell HN.out 1; have y2 : w6.cell? ⟨g, 2, none⟩ = some (.int .i64 n.f2) := blk_cell HN.out 2; have y3 : w6.cell? ⟨g, 3, none⟩ = some (.int .i64 n.f3) := blk_cell HN.out 3; have y4 : w6.cell? ⟨g, 4, none⟩ = some (.string n.f4) := blk_cell HN.out 4; have hlt : g < w6.heap.size := blk_lt HN.out; have hne : g ≠ w6.heap.size := Nat.ne_of_lt hlt; clear hd))
         go_ret2
         exact ⟨_, rfl, Kd.R_nil _ _ _ _ _, HB.out⟩
    ·have hff : Aside0 (tree_formed.f n.f0 n.f1 n.f2 n.f3 n.f4 = some false) := ⟨by rw [formed_f]; simpa using hf⟩
     have H2 := HP.out
     unfold insertP at H2
     rw [HD.out] at H2
     simp [hbz, hidb, hf] at H2
     obtain ⟨rfl, rfl⟩ := H2
     clear hf HP
     go_wp2_with (first | (go_at_call 32; (with_reducible refine (tree_isID.calls b true _ hid.out).mono ?_); rintro e w2 ⟨rfl, hd⟩; have HBn := Aside0.mk (HB.out.trans (hd.below.mono HB.out.size)); have HMn := Aside0.mk (HM.out.below hd.below); have HNn := Aside0.mk ((hd.below.block g (blk_lt HN.out)).trans HN.out); clear HB HM HN y0 y1 y2 y3 y4 hlt hne; have HB := HBn; have HM := HMn; have HN := HNn; clear HBn HMn HNn; have y0 : w2.cell? ⟨g, 0, none⟩ = some (.int .i64 n.f0) := blk_cell HN.out 0; have y1 : w2.cell? ⟨g, 1, none⟩ = some (.int .i64 n.f1) := blk_cell HN.out 1; have y2 : w2.cell? ⟨g, 2, none⟩ = some (.int .i64 n.f2) := blk_cell HN.out 2; have y3 : w2.cell? ⟨g, 3, none⟩ = some (.int .i64 n.f3) := blk_cell HN.out 3; have y4 : w2.cell? ⟨g, 4, none⟩ = some (.string n.f4) := blk_cell HN.out 4; have hlt : g < w2.heap.size := blk_lt HN.out; have hne : g ≠ w2.heap.size := Nat.ne_of_lt hlt; clear hd) | (go_at_call 42; (with_reducible refine (tree_formed.calls n.f0 n.f1 n.f2 n.f3 n.f4 false _ hff.out).mono ?_); rintro e w3 ⟨rfl, hb3⟩; have HBn := Aside0.mk (HB.out.trans (hb3.mono HB.out.size)); have HMn := Aside0.mk (HM.out.below hb3); have HNn := Aside0.mk ((hb3.block g (blk_lt HN.out)).trans HN.out); clear HB HM HN y0 y1 y2 y3 y4 hlt hne; have HB := HBn; have HM := HMn; have HN := HNn; clear HBn HMn HNn; have y0 : w3.cell? ⟨g, 0, none⟩ = some (.int .i64 n.f0) := blk_cell HN.out 0; have y1 : w3.cell? ⟨g, 1, none⟩ = some (.int .i64 n.f1) := blk_cell HN.out 1; have y2 : w3.cell? ⟨g, 2, none⟩ = some (.int .i64 n.f2) := blk_cell HN.out 2; have y3 : w3.cell? ⟨g, 3, none⟩ = some (.int .i64 n.f3) := blk_cell HN.out 3; have y4 : w3.cell? ⟨g, 4, none⟩ = some (.string n.f4) := blk_cell HN.out 4; have hlt : g < w3.heap.size := blk_lt HN.out; have hne : g ≠ w3.heap.size := Nat.ne_of_lt hlt; clear hb3))
     go_ret2
     exact ⟨_, rfl, Kd.R_nil _ _ _ _ _, HB.out⟩
   ·have hid : Aside0 (tree_isID.f b = some false) := ⟨by rw [idB_f]; simpa using hidb⟩
    have H2 := HP.out
    unfold insertP at H2
    rw [HD.out] at H2
    simp [hbz, hidb] at H2
    obtain ⟨rfl, rfl⟩ := H2
    clear HP hidb hbz
    go_wp2_with (first | (go_at_call 32; (with_reducible refine (tree_isID.calls b false _ hid.out).mono ?_); rintro e w2 ⟨rfl, hd⟩; have HBn := Aside0.mk (HB.out.trans (hd.below.mono HB.out.size)); have HMn := Aside0.mk (HM.out.below hd.below); have HNn := Aside0.mk ((hd.below.block g (blk_lt HN.out)).trans HN.out); clear HB HM HN y0 y1 y2 y3 y4 hlt hne; have HB := HBn; have HM := HMn; have HN := HNn; clear HBn HMn HNn; have y0 : w2.cell? ⟨g, 0, none⟩ = some (.int .i64 n.f0) := blk_cell HN.out 0; have y1 : w2.cell? ⟨g, 1, none⟩ = some (.int .i64 n.f1) := blk_cell HN.out 1; have y2 : w2.cell? ⟨g, 2, none⟩ = some (.int .i64 n.f2) := blk_cell HN.out 2; have y3 : w2.cell? ⟨g, 3, none⟩ = some (.int .i64 n.f3) := blk_cell HN.out 3; have y4 : w2.cell? ⟨g, 4, none⟩ = some (.string n.f4) := blk_cell HN.out 4; have hlt : g < w2.heap.size := blk_lt HN.out; have hne : g ≠ w2.heap.size := Nat.ne_of_lt hlt; clear hd))
    go_ret2
    exact ⟨_, rfl, Kd.R_nil _ _ _ _ _, HB.out⟩
def tree_Insert.f (l0 : List S24) (a1_0 a1_1 a1_2 a1_3 : Int) (a1_4 : ByteArray) (a2 : Int) : Option (List S24 × Int) := insertP l0 ⟨a1_0, a1_1, a1_2, a1_3, a1_4⟩ a2
theorem tree_Insert.calls (A0 : Option Addr) (c0 : Nat) (l0 : List (S24)) (a1_0 : Int) (a1_1 : Int) (a1_2 : Int) (a1_3 : Int) (a1_4 : ByteArray) (a2 : Int) (r1 : List (S24)) (r2 : Int) (w : World) (hr0 : Kd.C k24 w A0 l0.length l0) (hc0 : l0.length ≤ c0) (h : tree_Insert.f l0 a1_0 a1_1 a1_2 a1_3 a1_4 a2 = some (r1, r2)) :
  Calls Try.prog 20 #[.slice A0 l0.length c0, .agg #[.int .i64 a1_0, .int .i64 a1_1, .int .i64 a1_2, .int .i64 a1_3, .string a1_4], .int .i64 a2] w fun e w' => ∃ v0_ : Value, e = .returned (.tuple #[v0_, .int .i64 r2]) ∧ Kd.R k24 24 w' w.heap.size (fun _ => True) v0_ r1 ∧ Below w.heap.size w w' :=
 insert_calls A0 c0 l0 ⟨a1_0, a1_1, a1_2, a1_3, a1_4⟩ a2 r1 r2 w hr0 hc0 h
end Go.Proofs.Ytpafhhgoldenoaa.P
end
section
namespace Go.Proofs.Ytpafhhgoldenoaa.P
open Go.RowKit Go.Proofs.YtpafhhgoldenoaaW.PrintWords Go.Proofs.YtpafhhgoldenoaaW.PrintLast Go.Proofs.YtpafhhgoldenoaaW.PrintMore
open Go.Proofs.Ytpafhhgoldenoaa.XM
set_option linter.unusedVariables false
set_option linter.unusedSimpArgs false
attribute [local go_sem] encP
def reparent (x : S24) (p : Int) : S24 := ⟨x.f0, p, x.f2, x.f3, x.f4⟩
def insideB (g : List S24) (par : Int) : Bool := decide (0 ≤ ixFind (fun n => decide (n.f0 = par)) g)
def moveP (l : List S24) (id par b : Int) : Option (List S24 × Int) :=
 match placesP l with
 | none => some ([], 1)
 | some D =>
  if idB id = false then some ([], 1)
  else if idB par = false then some ([], 1)
  else if b ≠ 0 ∧ idB b = false then some ([], 1)
  else match mlook D id, mlook D par with
   | some pn, some pp =>
    if pn.1 = 0 then some ([], 24)
    else if insideB (splitP l id).2 par = true then some ([], 24)
    else if b ≠ 0 ∧ b = id then some ([], 24)
    else if b ≠ 0 ∧ b ∉ kidsL l par then some ([], 24)
    else if standsB (rd_T24 l pn.1).f2 (rd_T24 l pp.1).f2 = false then some ([], 25)
    else match (splitP l id).2 with
     | [] => none
     | x :: r => (putP (splitP l id).1 (reparent x par :: r) b).map (fun out => if (placesP out).isSome = true then (out, 0) else ([], 2))
   | _, _ => some ([], 4)
theorem spGo_len : ∀ (l : List S24) (D : IdSet) (s g : List S24), (spGo l D s g).1.length + (spGo l D s g).2.length = s.length + g.length + l.length
 | [], D, s, g => by simp [spGo]
 | n :: r, D, s, g => by
  simp only [spGo]
  split
  ·rw [spGo_len r]; simp; omega
  ·rw [spGo_len r]; simp; omega
theorem splitP_len (l : List S24) (id : Int) : (splitP l id).1.length + (splitP l id).2.length = l.length := by
 unfold splitP
 rw [spGo_len]; simp
def move_r.T12 : Bool × List (List Nat × List Nat) := (true, [([], []), ([], []), ([1], [1]), ([0, 2], [0, 2]), ([3], [3]), ([4], [4]), ([], []), ([], []), ([7], [7]), ([6, 8], [6, 8]), ([9], [9]), ([10], [10]), ([5, 11], [5, 11]), ([12], [12])])
def move_r.B12 : List Nat := [0, 0, 2, 7, 15, 31, 0, 0, 128, 448, 960, 1984, 4095, 8191]
theorem move_r.tab12 : rtab .any (opsOf Try.f25 12) = move_r.T12 := by kernel_rfl
theorem move_r.bits12 : waitsOk move_r.T12.2 move_r.B12 = true := by kernel_rfl
set_option maxHeartbeats 8000000 in
set_option maxRecDepth 100000 in
theorem move_calls (A0 : Option Addr) (c0 : Nat) (l0 : List S24) (id par b : Int) (r1 : List S24) (r2 : Int) (w : World) (hr0 : Kd.C k24 w A0 l0.length l0) (hc0 : l0.length ≤ c0) (h : moveP l0 id par b = some (r1, r2)) :
  Calls Try.prog 25 #[.slice A0 l0.length c0, .int .i64 id, .int .i64 par, .int .i64 b] w fun e w' => ∃ v0_ : Value, e = .returned (.tuple #[v0_, .int .i64 r2]) ∧ Kd.R k24 24 w' w.heap.size (fun _ => True) v0_ r1 ∧ Below w.heap.size w w' := by
 have hu24 := Try.underlying24
 have hu51 := Try.underlying51
 have HR := Aside0.mk hr0
 have HC0 := Aside0.mk hc0
 have HP := Aside0.mk h
 clear hr0 h
 have HB := Aside0.mk (below_alloc (Below.refl w.heap.size w) (.cells #[.int .i64 par] 3))
 have HN := Aside0.mk (heap_alloc_new w (.cells #[.int .i64 par] 3))
 go_enter Try.func25, Try.ntmps25
 go_wp2_with fail
 refine (places_calls A0 c0 l0 _ (Kd.C_alloc HR.out _) hc0).mono ?_
 rintro e w1 ⟨hb, hp⟩
 have HB1 := Aside0.mk (HB.out.trans (hb.mono HB.out.size))
 have HN1 := Aside0.mk ((hb.block w.heap.size (blk_lt HN.out)).trans HN.out)
 clear HB HN hb
 have HB := HB1
 have HN := HN1
 clear HB1 HN1
 obtain ⟨g, hg⟩ : ∃ g, g = w.heap.size := ⟨_, rfl⟩
 have HG := Aside0.mk hg
 simp only [← hg] at HN ⊢
 clear hg
 have y0 : w1.cell? ⟨g, 0, none⟩ = some (.int .i64 par) := blk_cell HN.out 0
 have hlt : g < w1.heap.size := blk_lt HN.out
 have hne : g ≠ w1.heap.size := Nat.ne_of_lt hlt
 cases hD : placesP l0 with
 | none =>
  rw [hD] at hp
  obtain rfl := hp
  have H2 := HP.out
  unfold moveP at H2
  rw [hD] at H2
  obtain ⟨rfl, rfl⟩ : [] = r1 ∧ (1 : Int) = r2 := by simpa using H2
  clear H2 HP hD
  go_wp2
  go_ret2
  exact ⟨_, rfl, Kd.R_nil _ _ _ _ _, HB.out⟩
 | some D =>
  rw [hD] at hp
  obtain ⟨bm, rfl, hM⟩ := hp
  have HM := Aside0.mk hM
  have HD := Aside0.mk hD
  obtain ⟨_, hl4, _, _, _, hinv⟩ := placesP_some hD
  have HI := Aside0.mk hinv
  have HL := Aside0.mk hl4
  clear hM hD hinv hl4
  by_cases hid_ : idB id = true
  ·have hid : Aside0 (tree_isID.f id = some true) := ⟨by rw [idB_f, hid_]⟩
   have Hid := Aside0.mk hid_
   clear hid_
   by_cases hpar_ : idB par = true
   ·have hpar : Aside0 (tree_isID.f par = some true) := ⟨by rw [idB_f, hpar_]⟩
    have Hpar := Aside0.mk hpar_
    clear hpar_
    by_cases hbz : b = 0
    ·have hbzb : (b != 0) = false := by simpa using hbz
     cases hm0 : mlook D id with
     | none =>
      have hb1x : ∃ q1 q2 qb, ((mlook D par).map encP).getD (.agg #[.int .i64 0, .int .i64 0]) = .agg #[.int .i64 q1, .int .i64 q2] ∧ (mlook D par).isSome = qb := by cases mlook D par <;> exact ⟨_, _, _, rfl, rfl⟩
      obtain ⟨q1, q2, qb, hq1, hq2⟩ := hb1x
      have hv1 := Aside0.mk hq1
      have hb1 := Aside0.mk hq2
      clear hq1 hq2
      have hv0 : Aside0 (((mlook D id).map encP).getD (.agg #[.int .i64 0, .int .i64 0]) = .agg #[.int .i64 0, .int .i64 0]) := ⟨by rw [hm0]; rfl⟩
      have hb0 : Aside0 ((mlook D id).isSome = false) := ⟨by rw [hm0]; rfl⟩
      have H2 := HP.out
      unfold moveP at H2
      rw [HD.out] at H2
      simp [Hid.out, Hpar.out, hbz, hm0] at H2
      obtain ⟨rfl, rfl⟩ := H2
      clear hm0 HP
      go_wp2_with (first | (go_at_call_of 32 (Value.int .i64 id); (with_reducible refine (tree_isID.calls id true _ hid.out).mono ?_); rintro e w2 ⟨rfl, hd⟩; have HBn := Aside0.mk (HB.out.trans (hd.below.mono HB.out.size)); have HMn := Aside0.mk (HM.out.below hd.below); have HNn := Aside0.mk ((hd.below.block g (blk_lt HN.out)).trans HN.out); clear HB HM HN y0 hlt hne; have HB := HBn; have HM := HMn; have HN := HNn; clear HBn HMn HNn; have y0 : w2.cell? ⟨g, 0, none⟩ = some (.int .i64 par) := blk_cell HN.out 0; have hlt : g < w2.heap.size := blk_lt HN.out; have hne : g ≠ w2.heap.size := Nat.ne_of_lt hlt; clear hd) | (go_at_call_of 32 (Value.int .i64 par); (with_reducible refine (tree_isID.calls par true _ hpar.out).mono ?_); rintro e w2 ⟨rfl, hd⟩; have HBn := Aside0.mk (HB.out.trans (hd.below.mono HB.out.size)); have HMn := Aside0.mk (HM.out.below hd.below); have HNn := Aside0.mk ((hd.below.block g (blk_lt HN.out)).trans HN.out); clear HB HM HN y0 hlt hne; have HB := HBn; have HM := HMn; have HN := HNn; clear HBn HMn HNn; have y0 : w2.cell? ⟨g, 0, none⟩ = some (.int .i64 par) := blk_cell HN.out 0; have hlt : g < w2.heap.size := blk_lt HN.out; have hne : g ≠ w2.heap.size := Nat.ne_of_lt hlt; clear hd) | (at_lookup; refine wpList_lookup_ok _ rfl (.tmp 47) (.tmp 48) 46 rfl 3 51 (KeyOK.int .i64) Try.underlying46 Try.underlying3 (zero51 _) rfl HM.out id rfl _ hv0.out _ hb0.out ?_) | (at_lookup; refine wpList_lookup_ok _ rfl (.tmp 53) (.tmp 54) 46 rfl 3 51 (KeyOK.int .i64) Try.underlying46 Try.underlying3 (zero51 _) rfl (HM.out.alloc _) par rfl _ hv1.out _ hb1.out ?_))
      go_ret2
      exact ⟨_, rfl, Kd.R_nil _ _ _ _ _, below_alloc (below_alloc HB.out _) _⟩
     | some pn =>
      obtain ⟨n1, n2⟩ := pn
      have hv0 : Aside0 (((mlook D id).map encP).getD (.agg #[.int .i64 0, .int .i64 0]) = .agg #[.int .i64 n1, .int .i64 n2]) := ⟨by rw [hm0]; rfl⟩
      have hb0 : Aside0 ((mlook D id).isSome = true) := ⟨by rw [hm0]; rfl⟩
      have Hm0 := Aside0.mk hm0
      have hI0 := HI.out _ _ hm0
      simp only at hI0
      clear hm0
      cases hm1 : mlook D par with
      | none =>
       have hv1 : Aside0 (((mlook D par).map encP).getD (.agg #[.int .i64 0, .int .i64 0]) = .agg #[.int .i64 0, .int .i64 0]) := ⟨by rw [hm1]; rfl⟩
       have hb1 : Aside0 ((mlook D par).isSome = false) := ⟨by rw [hm1]; rfl⟩
       have H2 := HP.out
       unfold moveP at H2
       rw [HD.out] at H2
       simp [Hid.out, Hpar.out, hbz, Hm0.out, hm1] at H2
       obtain ⟨rfl, rfl⟩ := H2
       clear hm1 HP
       go_wp2_with (first | (go_at_call_of 32 (Value.int .i64 id); (with_reducible refine (tree_isID.calls id true _ hid.out).mono ?_); rintro e w2 ⟨rfl, hd⟩; have HBn := Aside0.mk (HB.out.trans (hd.below.mono HB.out.size)); have HMn := Aside0.mk (HM.out.below hd.below); have HNn := Aside0.mk ((hd.below.block g (blk_lt HN.out)).trans HN.out); clear HB HM HN y0 hlt hne; have HB := HBn; have HM := HMn; have HN := HNn; clear HBn HMn HNn; have y0 : w2.cell? ⟨g, 0, none⟩ = some (.int .i64 par) := blk_cell HN.out 0; have hlt : g < w2.heap.size := blk_lt HN.out; have hne : g ≠ w2.heap.size := Nat.ne_of_lt hlt; clear hd) | (go_at_call_of 32 (Value.int .i64 par); (with_reducible refine (tree_isID.calls par true _ hpar.out).mono ?_); rintro e w2 ⟨rfl, hd⟩; have HBn := Aside0.mk (HB.out.trans (hd.below.mono HB.out.size)); have HMn := Aside0.mk (HM.out.below hd.below); have HNn := Aside0.mk ((hd.below.block g (blk_lt HN.out)).trans HN.out); clear HB HM HN y0 hlt hne; have HB := HBn; have HM := HMn; have HN := HNn; clear HBn HMn HNn; have y0 : w2.cell? ⟨g, 0, none⟩ = some (.int .i64 par) := blk_cell HN.out 0; have hlt : g < w2.heap.size := blk_lt HN.out; have hne : g ≠ w2.heap.size := Nat.ne_of_lt hlt; clear hd) | (at_lookup; refine wpList_lookup_ok _ rfl (.tmp 47) (.tmp 48) 46 rfl 3 51 (KeyOK.int .i64) Try.underlying46 Try.underlying3 (zero51 _) rfl HM.out id rfl _ hv0.out _ hb0.out ?_) | (at_lookup; refine wpList_lookup_ok _ rfl (.tmp 53) (.tmp 54) 46 rfl 3 51 (KeyOK.int .i64) Try.underlying46 Try.underlying3 (zero51 _) rfl (HM.out.alloc _) par rfl _ hv1.out _ hb1.out ?_))
       go_ret2
       exact ⟨_, rfl, Kd.R_nil _ _ _ _ _, below_alloc (below_alloc HB.out _) _⟩
      | some pp =>
       obtain ⟨p1, p2⟩ := pp
       have hv1 : Aside0 (((mlook D par).map encP).getD (.agg #[.int .i64 0, .int .i64 0]) = .agg #[.int .i64 p1, .int .i64 p2]) := ⟨by rw [hm1]; rfl⟩
       have hb1 : Aside0 ((mlook D par).isSome = true) := ⟨by rw [hm1]; rfl⟩
       have Hm1 := Aside0.mk hm1
       have hI1 := HI.out _ _ hm1
       simp only at hI1
       clear hm1
       have hn1a : 0 ≤ n1 := hI0.1
       have hn1b : n1 < (l0.length : Int) := hI0.2.1
       have hp1a : 0 ≤ p1 := hI1.1
       have hp1b : p1 < (l0.length : Int) := hI1.2.1
       clear hI0 hI1
       go_wp2_with (first | (go_at_call_of 32 (Value.int .i64 id); (with_reducible refine (tree_isID.calls id true _ hid.out).mono ?_); rintro e w2 ⟨rfl, hd⟩; have HBn := Aside0.mk (HB.out.trans (hd.below.mono HB.out.size)); have HMn := Aside0.mk (HM.out.below hd.below); have HNn := Aside0.mk ((hd.below.block g (blk_lt HN.out)).trans HN.out); clear HB HM HN y0 hlt hne; have HB := HBn; have HM := HMn; have HN := HNn; clear HBn HMn HNn; have y0 : w2.cell? ⟨g, 0, none⟩ = some (.int .i64 par) := blk_cell HN.out 0; have hlt : g < w2.heap.size := blk_lt HN.out; have hne : g ≠ w2.heap.size := Nat.ne_of_lt hlt; clear hd) | (go_at_call_of 32 (Value.int .i64 par); (with_reducible refine (tree_isID.calls par true _ hpar.out).mono ?_); rintro e w2 ⟨rfl, hd⟩; have HBn := Aside0.mk (HB.out.trans (hd.below.mono HB.out.size)); have HMn := Aside0.mk (HM.out.below hd.below); have HNn := Aside0.mk ((hd.below.block g (blk_lt HN.out)).trans HN.out); clear HB HM HN y0 hlt hne; have HB := HBn; have HM := HMn; have HN := HNn; clear HBn HMn HNn; have y0 : w2.cell? ⟨g, 0, none⟩ = some (.int .i64 par) := blk_cell HN.out 0; have hlt : g < w2.heap.size := blk_lt HN.out; have hne : g ≠ w2.heap.size := Nat.ne_of_lt hlt; clear hd) | (at_lookup; refine wpList_lookup_ok _ rfl (.tmp 47) (.tmp 48) 46 rfl 3 51 (KeyOK.int .i64) Try.underlying46 Try.underlying3 (zero51 _) rfl HM.out id rfl _ hv0.out _ hb0.out ?_) | (at_lookup; refine wpList_lookup_ok _ rfl (.tmp 53) (.tmp 54) 46 rfl 3 51 (KeyOK.int .i64) Try.underlying46 Try.underlying3 (zero51 _) rfl (HM.out.alloc _) par rfl _ hv1.out _ hb1.out ?_))
       have HBn := Aside0.mk (below_alloc (below_alloc HB.out (.cells #[.int .i64 n1, .int .i64 n2] 51)) (.cells #[.int .i64 p1, .int .i64 p2] 51))
       have HMn := Aside0.mk ((HM.out.alloc (.cells #[.int .i64 n1, .int .i64 n2] 51)).alloc (.cells #[.int .i64 p1, .int .i64 p2] 51))
       have HNn := Aside0.mk (blk_alloc (blk_alloc HN.out (.cells #[.int .i64 n1, .int .i64 n2] 51)) (.cells #[.int .i64 p1, .int .i64 p2] 51))
       have HTn := Aside0.mk (blk_alloc (heap_alloc_new w2 (.cells #[.int .i64 n1, .int .i64 n2] 51)) (.cells #[.int .i64 p1, .int .i64 p2] 51))
       have HUn := Aside0.mk (show ((w2.alloc (.cells #[.int .i64 n1, .int .i64 n2] 51)).alloc (.cells #[.int .i64 p1, .int .i64 p2] 51)).heap[w2.heap.size + 1]? = some (.cells #[.int .i64 p1, .int .i64 p2] 51 (0, 0)) from by have h_ := heap_alloc_new (w2.alloc (.cells #[.int .i64 n1, .int .i64 n2] 51)) (.cells #[.int .i64 p1, .int .i64 p2] 51); simpa using h_)
       clear HB HM HN y0 hlt hne
       generalize (w2.alloc (.cells #[.int .i64 n1, .int .i64 n2] 51)).alloc (.cells #[.int .i64 p1, .int .i64 p2] 51) = W at HBn HMn HNn HTn HUn ⊢
       generalize w2.heap.size + 1 = u at HUn ⊢
       generalize w2.heap.size = t at HTn ⊢
       have HB := HBn
       have HM := HMn
       have HN := HNn
       have HT := HTn
       have HU := HUn
       clear HBn HMn HNn HTn HUn
       have y0 : W.cell? ⟨g, 0, none⟩ = some (.int .i64 par) := blk_cell HN.out 0
       have hlt : g < W.heap.size := blk_lt HN.out
       have hne : g ≠ W.heap.size := Nat.ne_of_lt hlt
       refine (split_calls _ c0 l0 id W (Kd.C_below HR.out HB.out) HC0.out HL.out).mono ?_
       rintro e w5 ⟨vs, vg, rfl, hS, hGn, hb5⟩
       obtain ⟨st, hst_⟩ : ∃ st, st = (splitP l0 id).1 := ⟨_, rfl⟩
       obtain ⟨gn, hgn_⟩ : ∃ gn, gn = (splitP l0 id).2 := ⟨_, rfl⟩
       rw [← hst_] at hS
       rw [← hgn_] at hGn
       have HSt := Aside0.mk hst_
       have HGn_ := Aside0.mk hgn_
       have Hlen := Aside0.mk (splitP_len l0 id)
       rw [← hst_, ← hgn_] at Hlen
       clear hst_ hgn_
       obtain ⟨As, cs, rfl⟩ := Kd.R_slice hS
       obtain ⟨Ag, cg, rfl⟩ := Kd.R_slice hGn
       have HS := Aside0.mk (Kd.R_lower hS HB.out.size)
       have HGo := Aside0.mk (Kd.R_lower hGn HB.out.size)
       clear hS hGn
       have HBn := Aside0.mk (HB.out.trans (hb5.mono HB.out.size))
       have HMn := Aside0.mk (HM.out.below hb5)
       have HNn := Aside0.mk ((hb5.block g (blk_lt HN.out)).trans HN.out)
       have HTn := Aside0.mk ((hb5.block t (blk_lt HT.out)).trans HT.out)
       have HUn := Aside0.mk ((hb5.block u (blk_lt HU.out)).trans HU.out)
       clear HB HM HN HT HU y0 hlt hne
       have HB := HBn
       have HM := HMn
       have HN := HNn
       have HT := HTn
       have HU := HUn
       clear HBn HMn HNn HTn HUn
       have y0 : w5.cell? ⟨g, 0, none⟩ = some (.int .i64 par) := blk_cell HN.out 0
       have hlt : g < w5.heap.size := blk_lt HN.out
       have hne : g ≠ w5.heap.size := Nat.ne_of_lt hlt
       clear hb5
       by_cases hn0 : n1 = 0
       ·obtain ⟨cb, hcb⟩ : ∃ cb, decide (0 ≤ ixFind (fun n => decide (n.f0 = par)) gn) = cb := ⟨_, rfl⟩
        have hcf := Aside0.mk hcb
        clear hcb
        have hn0b : (n1 == 0) = true := by simpa using hn0
        have H2 := HP.out
        unfold moveP at H2
        rw [HD.out] at H2
        simp [Hid.out, Hpar.out, hbz, Hm0.out, Hm1.out, hn0] at H2
        obtain ⟨rfl, rfl⟩ := H2
        clear hn0 HP
        go_wp2_with (first | (go_at_call 50; (with_reducible refine (containsFunc_calls Ag cg gn g par _ (Kd.R_reads' HGo.out).2.2 (Kd.R_reads' HGo.out).2.1 HN.out cb hcf.out).mono ?_); rintro e w6 ⟨rfl, hb6⟩; have HBn := Aside0.mk (HB.out.trans (hb6.mono HB.out.size)); have HMn := Aside0.mk (HM.out.below hb6); have HNn := Aside0.mk ((hb6.block g (blk_lt HN.out)).trans HN.out); have HTn := Aside0.mk ((hb6.block t (blk_lt HT.out)).trans HT.out); have HUn := Aside0.mk ((hb6.block u (blk_lt HU.out)).trans HU.out); have HSn := Aside0.mk (Kd.R_below HS.out hb6); have HGon := Aside0.mk (Kd.R_below HGo.out hb6); clear HB HM HN HT HU HS HGo y0 hlt hne; have HB := HBn; have HM := HMn; have HN := HNn; have HT := HTn; have HU := HUn; have HS := HSn; have HGo := HGon; clear HBn HMn HNn HTn HUn HSn HGon; have y0 : w6.cell? ⟨g, 0, none⟩ = some (.int .i64 par) := blk_cell HN.out 0; have hlt : g < w6.heap.size := blk_lt HN.out; have hne : g ≠ w6.heap.size := Nat.ne_of_lt hlt; clear hb6; have zt0 : w6.cell? ⟨t, 0, none⟩ = some (.int .i64 n1) := blk_cell HT.out 0))
        go_ret2
        exact ⟨_, rfl, Kd.R_nil _ _ _ _ _, HB.out⟩
       ·have hn0b : (n1 == 0) = false := by simpa using hn0
        have Hn0 := Aside0.mk hn0
        clear hn0
        by_cases hcf_ : insideB gn par = true
        ·have hcf : Aside0 (decide (0 ≤ ixFind (fun n => decide (n.f0 = par)) gn) = true) := ⟨hcf_⟩
         rw [HGn_.out] at hcf_
         have H2 := HP.out
         unfold moveP at H2
         rw [HD.out] at H2
         simp [Hid.out, Hpar.out, hbz, Hm0.out, Hm1.out, Hn0.out, hcf_] at H2
         obtain ⟨rfl, rfl⟩ := H2
         clear hcf_ HP
         go_wp2_with (first | (go_at_call 50; (with_reducible refine (containsFunc_calls Ag cg gn g par _ (Kd.R_reads' HGo.out).2.2 (Kd.R_reads' HGo.out).2.1 HN.out true hcf.out).mono ?_); rintro e w6 ⟨rfl, hb6⟩; have HBn := Aside0.mk (HB.out.trans (hb6.mono HB.out.size)); have HMn := Aside0.mk (HM.out.below hb6); have HNn := Aside0.mk ((hb6.block g (blk_lt HN.out)).trans HN.out); have HTn := Aside0.mk ((hb6.block t (blk_lt HT.out)).trans HT.out); have HUn := Aside0.mk ((hb6.block u (blk_lt HU.out)).trans HU.out); have HSn := Aside0.mk (Kd.R_below HS.out hb6); have HGon := Aside0.mk (Kd.R_below HGo.out hb6); clear HB HM HN HT HU HS HGo y0 hlt hne; have HB := HBn; have HM := HMn; have HN := HNn; have HT := HTn; have HU := HUn; have HS := HSn; have HGo := HGon; clear HBn HMn HNn HTn HUn HSn HGon; have y0 : w6.cell? ⟨g, 0, none⟩ = some (.int .i64 par) := blk_cell HN.out 0; have hlt : g < w6.heap.size := blk_lt HN.out; have hne : g ≠ w6.heap.size := Nat.ne_of_lt hlt; clear hb6; have zt0 : w6.cell? ⟨t, 0, none⟩ = some (.int .i64 n1) := blk_cell HT.out 0))
         go_ret2
         exact ⟨_, rfl, Kd.R_nil _ _ _ _ _, HB.out⟩
        ·have hcf : Aside0 (decide (0 ≤ ixFind (fun n => decide (n.f0 = par)) gn) = false) := ⟨by simpa [insideB] using hcf_⟩
         have Hcf := Aside0.mk (show insideB gn par = false by simpa using hcf_)
         rw [HGn_.out] at Hcf
         clear hcf_
         go_wp2_with (first | (go_at_call 50; (with_reducible refine (containsFunc_calls Ag cg gn g par _ (Kd.R_reads' HGo.out).2.2 (Kd.R_reads' HGo.out).2.1 HN.out false hcf.out).mono ?_); rintro e w6 ⟨rfl, hb6⟩; have HBn := Aside0.mk (HB.out.trans (hb6.mono HB.out.size)); have HMn := Aside0.mk (HM.out.below hb6); have HNn := Aside0.mk ((hb6.block g (blk_lt HN.out)).trans HN.out); have HTn := Aside0.mk ((hb6.block t (blk_lt HT.out)).trans HT.out); have HUn := Aside0.mk ((hb6.block u (blk_lt HU.out)).trans HU.out); have HSn := Aside0.mk (Kd.R_below HS.out hb6); have HGon := Aside0.mk (Kd.R_below HGo.out hb6); clear HB HM HN HT HU HS HGo y0 hlt hne; have HB := HBn; have HM := HMn; have HN := HNn; have HT := HTn; have HU := HUn; have HS := HSn; have HGo := HGon; clear HBn HMn HNn HTn HUn HSn HGon; have y0 : w6.cell? ⟨g, 0, none⟩ = some (.int .i64 par) := blk_cell HN.out 0; have hlt : g < w6.heap.size := blk_lt HN.out; have hne : g ≠ w6.heap.size := Nat.ne_of_lt hlt; clear hb6; have zt0 : w6.cell? ⟨t, 0, none⟩ = some (.int .i64 n1) := blk_cell HT.out 0))
         obtain ⟨V, rfl⟩ : ∃ V0 : World, V0 = w6 := ⟨_, rfl⟩
         have zt0 : V.cell? ⟨t, 0, none⟩ = some (.int .i64 n1) := blk_cell HT.out 0
         have zu0 : V.cell? ⟨u, 0, none⟩ = some (.int .i64 p1) := blk_cell HU.out 0
         have htlt := blk_lt HT.out
         have hult := blk_lt HU.out
         obtain ⟨ad, e2, _, _, zk, _, _⟩ := at_T24 (Kd.C_below HR.out HB.out) n1 hn1a hn1b
         obtain ⟨ad2, e3, _, _, zm, _, _⟩ := at_T24 (Kd.C_below HR.out HB.out) p1 hp1a hp1b
         subst e2
         obtain rfl : ad = ad2 := by injection e3
         clear e3
         obtain ⟨kk, hkk⟩ : ∃ kk, kk = (rd_T24 l0 n1).f2 := ⟨_, rfl⟩
         obtain ⟨km, hkm⟩ : ∃ km, km = (rd_T24 l0 p1).f2 := ⟨_, rfl⟩
         rw [← hkk] at zk
         rw [← hkm] at zm
         have Hkk := Aside0.mk hkk
         have Hkm := Aside0.mk hkm
         clear hkk hkm
         have hn1c := eq_true hn1a
         have hn1d := eq_true hn1b
         have hp1c := eq_true hp1a
         have hp1d := eq_true hp1b
         have hn1e : decide (0 ≤ n1) = true := decide_eq_true hn1a
         have hn1f : decide (n1 < (l0.length : Int)) = true := decide_eq_true hn1b
         have hp1e : decide (0 ≤ p1) = true := decide_eq_true hp1a
         have hp1f : decide (p1 < (l0.length : Int)) = true := decide_eq_true hp1b
         by_cases hs : standsB kk km = true
         ·have hst : Aside0 (tree_stands.f kk km = some true) := ⟨by rw [stands_f, hs]⟩
          have hsf : Aside0 (standsB (rd_T24 l0 n1).f2 (rd_T24 l0 p1).f2 = true) := ⟨by rw [← Hkk.out, ← Hkm.out]; exact hs⟩
          clear hs
          refine start_ (n := 14) (S := fun w' => w'.cell? ⟨t, 0, none⟩ = some (.int .i64 n1) ∧ w'.cell? ⟨u, 0, none⟩ = some (.int .i64 p1) ∧ w'.cell? ⟨(ad.add (n1.toNat * 5)).block, (ad.add (n1.toNat * 5)).off + 2, none⟩ = some (.int .i64 kk) ∧ w'.cell? ⟨(ad.add (p1.toNat * 5)).block, (ad.add (p1.toNat * 5)).off + 2, none⟩ = some (.int .i64 km)) (ds := []) #[false, false, false, false, false, false, false, false, false, false, false, false, false, false] (by kernel_rfl) rfl rfl ⟨(((below_drew1 (Below.refl V.heap.size V)).cell (p := ⟨t, 0, none⟩) htlt).trans zt0), (((below_drew1 (Below.refl V.heap.size V)).cell (p := ⟨u, 0, none⟩) hult).trans zu0), (((below_drew1 (Below.refl V.heap.size V)).cell (p := ⟨(ad.add (n1.toNat * 5)).block, (ad.add (n1.toNat * 5)).off + 2, none⟩) (World.block_lt_of_cell? V _ zk)).trans zk), (((below_drew1 (Below.refl V.heap.size V)).cell (p := ⟨(ad.add (p1.toNat * 5)).block, (ad.add (p1.toNat * 5)).off + 2, none⟩) (World.block_lt_of_cell? V _ zm)).trans zm)⟩ (fun hHeld => ?_)
          refine with_tabW move_r.tab12 move_r.bits12 (fun HT_ HW_ => ?_)
          refine pure_ (i := 0) (N := some 96) (v := ?_) (a' := ?_) #[true, false, false, false, false, false, false, false, false, false, false, false, false, false] rfl rfl (any_of HT_.out (by kernel_rfl)) (fun _ _ _ h => h) (Or.inl ⟨by rfl, ?_⟩) ?_ ?_
          rotate_left
          ·intro w'
           go_simp
           with_reducible rfl
          rotate_left
          ·simp only [Act.put, List.setIfInBounds_toArray, List.set_cons_zero, List.set_cons_succ, i64_w, i32_w]
           rfl
          refine pure_ (i := 1) (N := some 97) (v := ?_) (a' := ?_) #[true, true, false, false, false, false, false, false, false, false, false, false, false, false] rfl rfl (any_of HT_.out (by kernel_rfl)) (fun _ _ _ h => h) (Or.inl ⟨by rfl, ?_⟩) ?_ ?_
          rotate_left
          ·intro w'
           go_simp
           with_reducible rfl
          rotate_left
          ·simp only [Act.put, List.setIfInBounds_toArray, List.set_cons_zero, List.set_cons_succ, i64_w, i32_w]
           rfl
          refine pure_ (i := 6) (N := some 102) (v := ?_) (a' := ?_) #[true, true, false, false, false, false, true, false, false, false, false, false, false, false] rfl rfl (any_of HT_.out (by kernel_rfl)) (fun _ _ _ h => h) (Or.inl ⟨by rfl, ?_⟩) ?_ ?_
          rotate_left
          ·intro w'
           go_simp
           with_reducible rfl
          rotate_left
          ·simp only [Act.put, List.setIfInBounds_toArray, List.set_cons_zero, List.set_cons_succ, i64_w, i32_w]
           rfl
          refine pure_ (i := 7) (N := some 103) (v := ?_) (a' := ?_) #[true, true, false, false, false, false, true, true, false, false, false, false, false, false] rfl rfl (any_of HT_.out (by kernel_rfl)) (fun _ _ _ h => h) (Or.inl ⟨by rfl, ?_⟩) ?_ ?_
          rotate_left
          ·intro w'
           go_simp
           with_reducible rfl
          rotate_left
          ·simp only [Act.put, List.setIfInBounds_toArray, List.set_cons_zero, List.set_cons_succ, i64_w, i32_w]
           rfl
          refine take_ (i := 2) (N := some 98) (v := ?_) (a' := ?_) #[true, true, true, false, false, false, true, true, false, false, false, false, false, false] rfl rfl (take_ofW HT_.out HW_.out (by kernel_rfl)) (fun _ _ _ h => h) (Or.inl ⟨by rfl, ?_⟩) hHeld ?_ ?_
          rotate_left
          ·rintro w' ⟨s0, s1, s2, s3⟩
           go_simp
           with_reducible rfl
          rotate_left
          ·simp only [Act.put, List.setIfInBounds_toArray, List.set_cons_zero, List.set_cons_succ, i64_w, i32_w]
           rfl
          refine pure_ (i := 3) (N := some 99) (v := ?_) (a' := ?_) #[true, true, true, true, false, false, true, true, false, false, false, false, false, false] rfl rfl (any_of HT_.out (by kernel_rfl)) (fun _ _ _ h => h) (Or.inl ⟨by rfl, ?_⟩) ?_ ?_
          rotate_left
          ·intro w'
           go_simp
           with_reducible rfl
          rotate_left
          ·simp only [Act.put, List.setIfInBounds_toArray, List.set_cons_zero, List.set_cons_succ, i64_w, i32_w]
           rfl
          refine pure_ (i := 4) (N := some 100) (v := ?_) (a' := ?_) #[true, true, true, true, true, false, true, true, false, false, false, false, false, false] rfl rfl (any_of HT_.out (by kernel_rfl)) (fun _ _ _ h => h) (Or.inl ⟨by rfl, ?_⟩) ?_ ?_
          rotate_left
          ·intro w'
           go_simp
           with_reducible rfl
          rotate_left
          ·simp only [Act.put, List.setIfInBounds_toArray, List.set_cons_zero, List.set_cons_succ, i64_w, i32_w]
           rfl
          refine take_ (i := 5) (N := some 101) (v := ?_) (a' := ?_) #[true, true, true, true, true, true, true, true, false, false, false, false, false, false] rfl rfl (take_ofW HT_.out HW_.out (by kernel_rfl)) (fun _ _ _ h => h) (Or.inl ⟨by rfl, ?_⟩) hHeld ?_ ?_
          rotate_left
          ·rintro w' ⟨s0, s1, s2, s3⟩
           go_simp
           with_reducible rfl
          rotate_left
          ·simp only [Act.put, List.setIfInBounds_toArray, List.set_cons_zero, List.set_cons_succ, i64_w, i32_w]
           rfl
          refine take_ (i := 8) (N := some 104) (v := ?_) (a' := ?_) #[true, true, true, true, true, true, true, true, true, false, false, false, false, false] rfl rfl (take_ofW HT_.out HW_.out (by kernel_rfl)) (fun _ _ _ h => h) (Or.inl ⟨by rfl, ?_⟩) hHeld ?_ ?_
          rotate_left
          ·rintro w' ⟨s0, s1, s2, s3⟩
           go_simp
           with_reducible rfl
          rotate_left
          ·simp only [Act.put, List.setIfInBounds_toArray, List.set_cons_zero, List.set_cons_succ, i64_w, i32_w]
           rfl
          refine pure_ (i := 9) (N := some 105) (v := ?_) (a' := ?_) #[true, true, true, true, true, true, true, true, true, true, false, false, false, false] rfl rfl (any_of HT_.out (by kernel_rfl)) (fun _ _ _ h => h) (Or.inl ⟨by rfl, ?_⟩) ?_ ?_
          rotate_left
          ·intro w'
           go_simp
           with_reducible rfl
          rotate_left
          ·simp only [Act.put, List.setIfInBounds_toArray, List.set_cons_zero, List.set_cons_succ, i64_w, i32_w]
           rfl
          refine pure_ (i := 10) (N := some 106) (v := ?_) (a' := ?_) #[true, true, true, true, true, true, true, true, true, true, true, false, false, false] rfl rfl (any_of HT_.out (by kernel_rfl)) (fun _ _ _ h => h) (Or.inl ⟨by rfl, ?_⟩) ?_ ?_
          rotate_left
          ·intro w'
           go_simp
           with_reducible rfl
          rotate_left
          ·simp only [Act.put, List.setIfInBounds_toArray, List.set_cons_zero, List.set_cons_succ, i64_w, i32_w]
           rfl
          refine take_ (i := 11) (N := some 107) (v := ?_) (a' := ?_) #[true, true, true, true, true, true, true, true, true, true, true, true, false, false] rfl rfl (take_ofW HT_.out HW_.out (by kernel_rfl)) (fun _ _ _ h => h) (Or.inl ⟨by rfl, ?_⟩) hHeld ?_ ?_
          rotate_left
          ·rintro w' ⟨s0, s1, s2, s3⟩
           go_simp
           with_reducible rfl
          rotate_left
          ·simp only [Act.put, List.setIfInBounds_toArray, List.set_cons_zero, List.set_cons_succ, i64_w, i32_w]
           rfl
          refine one_ (i := 12) (N := some 108) #[true, true, true, true, true, true, true, true, true, true, true, true, true, false] rfl rfl (one_of HT_.out (by kernel_rfl)) (by decide) (fun K hK => ?_)
          refine goes_ Try.func44 (by kernel_rfl) rfl #[.int .i64 kk, .int .i64 km] (by rfl) rfl rfl (by simp only [List.map_toArray, List.map_cons, List.map_nil]; rfl) ?_
          with_reducible refine (tree_stands.calls kk km true _ hst.out).mono ?_
          rintro e w9 ⟨rfl, hds⟩
          refine ⟨_, rfl, ?_⟩
          have hb9 : Below V.heap.size V w9 := (below_drew1 (Below.refl _ V)).trans hds.below
          refine hK.out _ _ ⟨((hb9.cell (p := ⟨t, 0, none⟩) htlt).trans zt0), ((hb9.cell (p := ⟨u, 0, none⟩) hult).trans zu0), ((hb9.cell (p := ⟨(ad.add (n1.toNat * 5)).block, (ad.add (n1.toNat * 5)).off + 2, none⟩) (World.block_lt_of_cell? V _ zk)).trans zk), ((hb9.cell (p := ⟨(ad.add (p1.toNat * 5)).block, (ad.add (p1.toNat * 5)).off + 2, none⟩) (World.block_lt_of_cell? V _ zm)).trans zm)⟩ (fun hHeld => ?_)
          clear hK K
          refine norm_ (a' := ?_) ?_ ?_
          rotate_left
          ·show Act.put _ (some 108) _ = _
           simp only [Act.put, List.setIfInBounds_toArray, List.set_cons_zero, List.set_cons_succ, i64_w, i32_w]
           rfl
          refine pure_ (i := 13) (N := some 109) (v := ?_) (a' := ?_) #[true, true, true, true, true, true, true, true, true, true, true, true, true, true] rfl rfl (any_of HT_.out (by kernel_rfl)) (fun _ _ _ h => h) (Or.inl ⟨by rfl, ?_⟩) ?_ ?_
          rotate_left
          ·intro w'
           go_simp
           with_reducible rfl
          rotate_left
          ·simp only [Act.put, List.setIfInBounds_toArray, List.set_cons_zero, List.set_cons_succ, i64_w, i32_w]
           rfl
          refine done_ (done_of HT_.out (by kernel_rfl)) ?_

          have HBn := Aside0.mk (HB.out.trans (hb9.mono HB.out.size))
          have HMn := Aside0.mk (HM.out.below hb9)
          have HNn := Aside0.mk ((hb9.block g (blk_lt HN.out)).trans HN.out)
          have HTn := Aside0.mk ((hb9.block t (blk_lt HT.out)).trans HT.out)
          have HUn := Aside0.mk ((hb9.block u (blk_lt HU.out)).trans HU.out)
          have HSn := Aside0.mk (Kd.R_below HS.out hb9)
          have HGon := Aside0.mk (Kd.R_below HGo.out hb9)
          clear HB HM HN HT HU HS HGo y0 hlt hne
          have HB := HBn
          have HM := HMn
          have HN := HNn
          have HT := HTn
          have HU := HUn
          have HS := HSn
          have HGo := HGon
          clear HBn HMn HNn HTn HUn HSn HGon
          have y0 : w9.cell? ⟨g, 0, none⟩ = some (.int .i64 par) := blk_cell HN.out 0
          have hlt : g < w9.heap.size := blk_lt HN.out
          have hne : g ≠ w9.heap.size := Nat.ne_of_lt hlt
          clear zt0 zu0 zk zm htlt hult hb9 hn1c hn1d hp1c hp1d
          have H2 := HP.out
          unfold moveP at H2
          rw [HD.out] at H2
          simp [Hid.out, Hpar.out, hbz, Hm0.out, Hm1.out, Hn0.out, Hcf.out, hsf.out] at H2
          rw [← HSt.out, ← HGn_.out] at H2
          cases hgc : gn with
          | nil => rw [hgc] at H2; simp at H2
          | cons x r =>
           subst hgc
           simp at H2
           obtain ⟨q, hput, hq⟩ := H2
           have HPut := Aside0.mk hput
           clear hput HP
           have hgf := Kd.R_form HGo.out (by simp)
           obtain ⟨go_, cg2, eg, hgb, hgl, _⟩ := hgf
           injection eg with eg1 eg2 eg3
           subst eg1 eg3
           clear eg2
           have hlen1 : (0 : Int) < ((x :: r).length : Int) := by simp <;> omega
           obtain ⟨adx, ex, xx0, xx1, xx2, xx3, xx4⟩ := at_T24 (Kd.R_reads' HGo.out).2.2 0 (by omega) (by simp <;> omega)
           obtain rfl : (⟨go_, 0, none⟩ : Addr) = adx := by injection ex
           clear ex
           have e0 : (⟨go_, 0, none⟩ : Addr).add (Int.toNat 0 * 5) = ⟨go_, 0, none⟩ := rfl
           rw [e0] at xx0 xx1 xx2 xx3 xx4
           clear e0
           have ex0 : rd_T24 (x :: r) 0 = x := rfl
           rw [ex0] at xx0 xx1 xx2 xx3 xx4
           clear ex0
           have hcells : ∀ j v, [.int .i64 x.f0, .int .i64 x.f1, .int .i64 x.f2, .int .i64 x.f3, .string x.f4][j]? = some v → w9.cell? ⟨go_, j, none⟩ = some v := by
            intro j v hj
            match j, hj with
            | 0, hj => obtain rfl := Option.some.inj hj; exact xx0
            | 1, hj => obtain rfl := Option.some.inj hj; exact xx1
            | 2, hj => obtain rfl := Option.some.inj hj; exact xx2
            | 3, hj => obtain rfl := Option.some.inj hj; exact xx3
            | 4, hj => obtain rfl := Option.some.inj hj; exact xx4
            | j + 5, hj => simp at hj
           have HCl := Aside0.mk hcells
           clear hcells xx0 xx2 xx3 xx4
           have hsz3 : (Try.prog.info? 3).map (·.size) = some 1 := by kernel_rfl
           have HSz := Aside0.mk hsz3
           clear hsz3
           go_wp2_with (first | (refine Kd.R_store k24 (w0 := w) w.heap.size rfl rfl 3 (.tmp 113) (.tmp 111) rfl 24 (g := go_) (n := (x :: r).length) (cap := cg) (o' := 1) 0 1 (x :: r) (reparent x par) (.int .i64 par) [.int .i64 par] [.int .i64 x.f0, .int .i64 x.f1, .int .i64 x.f2, .int .i64 x.f3, .string x.f4] _ (fun _ => False) rfl rfl rfl rfl HSz.out (by simp [Value.oneCell']) HGo.out (by omega) hlen1 rfl (fun j v hj => by have h_ := HCl.out j v hj; simpa using h_) (show 1 + 1 ≤ 5 by omega) (k24_mkM _ _ _ (reparent x par)) (fun _ hk => hk.elim) HB.out ?_; intro w10 hG10 hB10 hg10))
           have HGo2 := Aside0.mk hG10
           have HS2 := Aside0.mk (Kd.R_grown1 HS.out rfl hg10 (fun e_ => HGo.out.1 go_ rfl (by rw [← e_])))
           have HB2 := Aside0.mk hB10
           clear hG10 hB10 hg10
           go_wp2_with (first | (go_at_call 45; (refine (put_calls As cs st _ cg (reparent x par :: r) _ q w10 (Kd.R_reads' HS2.out).2.2 (Kd.R_reads' HS2.out).2.1 (Kd.R_reads' HGo2.out).2.2 (Kd.R_reads' HGo2.out).2.1 (by have := HL.out; have := Hlen.out; simp at this ⊢; omega) HPut.out).mono ?_); rintro e w11 ⟨v11, rfl, hR11, hb11⟩; obtain ⟨A11, c11, rfl⟩ := Kd.R_slice hR11; have HB11 := Aside0.mk (HB2.out.trans (hb11.mono HB2.out.size)); have HR11 := Aside0.mk (Kd.R_lower hR11 HB2.out.size); clear hR11 hb11))
           cases hvq : (placesP q).isSome with
           | true =>
            have hv : tree_Valid.f q = some true := by unfold tree_Valid.f; rw [hvq]
            have HV := Aside0.mk hv
            rw [hvq] at hq
            simp at hq
            obtain ⟨rfl, rfl⟩ := hq
            clear hv hvq
            go_wp2_with (first | (go_at_call 13; (with_reducible refine (tree_Valid.calls A11 c11 q true _ (Kd.R_reads' HR11.out).2.2 (Kd.R_reads' HR11.out).2.1 HV.out).mono ?_); rintro e w12 ⟨rfl, hb12⟩))
            go_ret2
            exact ⟨_, rfl, Kd.R_below HR11.out hb12, HB11.out.trans (hb12.mono HB11.out.size)⟩
           | false =>
            have hv : tree_Valid.f q = some false := by unfold tree_Valid.f; rw [hvq]
            have HV := Aside0.mk hv
            rw [hvq] at hq
            simp at hq
            obtain ⟨rfl, rfl⟩ := hq
            clear hv hvq
            go_wp2_with (first | (go_at_call 13; (with_reducible refine (tree_Valid.calls A11 c11 q false _ (Kd.R_reads' HR11.out).2.2 (Kd.R_reads' HR11.out).2.1 HV.out).mono ?_); rintro e w12 ⟨rfl, hb12⟩))
            go_ret2
            exact ⟨_, rfl, Kd.R_nil _ _ _ _ _, HB11.out.trans (hb12.mono HB11.out.size)⟩
         ·have hst : Aside0 (tree_stands.f kk km = some false) := ⟨by rw [stands_f]; simpa using hs⟩
          have hsf : Aside0 (standsB (rd_T24 l0 n1).f2 (rd_T24 l0 p1).f2 = false) := ⟨by rw [← Hkk.out, ← Hkm.out]; simpa using hs⟩
          clear hs
          have H2 := HP.out
          unfold moveP at H2
          rw [HD.out] at H2
          simp [Hid.out, Hpar.out, hbz, Hm0.out, Hm1.out, Hn0.out, Hcf.out, hsf.out] at H2
          obtain ⟨rfl, rfl⟩ := H2
          clear HP
          refine start_ (n := 14) (S := fun w' => w'.cell? ⟨t, 0, none⟩ = some (.int .i64 n1) ∧ w'.cell? ⟨u, 0, none⟩ = some (.int .i64 p1) ∧ w'.cell? ⟨(ad.add (n1.toNat * 5)).block, (ad.add (n1.toNat * 5)).off + 2, none⟩ = some (.int .i64 kk) ∧ w'.cell? ⟨(ad.add (p1.toNat * 5)).block, (ad.add (p1.toNat * 5)).off + 2, none⟩ = some (.int .i64 km)) (ds := []) #[false, false, false, false, false, false, false, false, false, false, false, false, false, false] (by kernel_rfl) rfl rfl ⟨(((below_drew1 (Below.refl V.heap.size V)).cell (p := ⟨t, 0, none⟩) htlt).trans zt0), (((below_drew1 (Below.refl V.heap.size V)).cell (p := ⟨u, 0, none⟩) hult).trans zu0), (((below_drew1 (Below.refl V.heap.size V)).cell (p := ⟨(ad.add (n1.toNat * 5)).block, (ad.add (n1.toNat * 5)).off + 2, none⟩) (World.block_lt_of_cell? V _ zk)).trans zk), (((below_drew1 (Below.refl V.heap.size V)).cell (p := ⟨(ad.add (p1.toNat * 5)).block, (ad.add (p1.toNat * 5)).off + 2, none⟩) (World.block_lt_of_cell? V _ zm)).trans zm)⟩ (fun hHeld => ?_)
          refine with_tabW move_r.tab12 move_r.bits12 (fun HT_ HW_ => ?_)
          refine pure_ (i := 0) (N := some 96) (v := ?_) (a' := ?_) #[true, false, false, false, false, false, false, false, false, false, false, false, false, false] rfl rfl (any_of HT_.out (by kernel_rfl)) (fun _ _ _ h => h) (Or.inl ⟨by rfl, ?_⟩) ?_ ?_
          rotate_left
          ·intro w'
           go_simp
           with_reducible rfl
          rotate_left
          ·simp only [Act.put, List.setIfInBounds_toArray, List.set_cons_zero, List.set_cons_succ, i64_w, i32_w]
           rfl
          refine pure_ (i := 1) (N := some 97) (v := ?_) (a' := ?_) #[true, true, false, false, false, false, false, false, false, false, false, false, false, false] rfl rfl (any_of HT_.out (by kernel_rfl)) (fun _ _ _ h => h) (Or.inl ⟨by rfl, ?_⟩) ?_ ?_
          rotate_left
          ·intro w'
           go_simp
           with_reducible rfl
          rotate_left
          ·simp only [Act.put, List.setIfInBounds_toArray, List.set_cons_zero, List.set_cons_succ, i64_w, i32_w]
           rfl
          refine pure_ (i := 6) (N := some 102) (v := ?_) (a' := ?_) #[true, true, false, false, false, false, true, false, false, false, false, false, false, false] rfl rfl (any_of HT_.out (by kernel_rfl)) (fun _ _ _ h => h) (Or.inl ⟨by rfl, ?_⟩) ?_ ?_
          rotate_left
          ·intro w'
           go_simp
           with_reducible rfl
          rotate_left
          ·simp only [Act.put, List.setIfInBounds_toArray, List.set_cons_zero, List.set_cons_succ, i64_w, i32_w]
           rfl
          refine pure_ (i := 7) (N := some 103) (v := ?_) (a' := ?_) #[true, true, false, false, false, false, true, true, false, false, false, false, false, false] rfl rfl (any_of HT_.out (by kernel_rfl)) (fun _ _ _ h => h) (Or.inl ⟨by rfl, ?_⟩) ?_ ?_
          rotate_left
          ·intro w'
           go_simp
           with_reducible rfl
          rotate_left
          ·simp only [Act.put, List.setIfInBounds_toArray, List.set_cons_zero, List.set_cons_succ, i64_w, i32_w]
           rfl
          refine take_ (i := 2) (N := some 98) (v := ?_) (a' := ?_) #[true, true, true, false, false, false, true, true, false, false, false, false, false, false] rfl rfl (take_ofW HT_.out HW_.out (by kernel_rfl)) (fun _ _ _ h => h) (Or.inl ⟨by rfl, ?_⟩) hHeld ?_ ?_
          rotate_left
          ·rintro w' ⟨s0, s1, s2, s3⟩
           go_simp
           with_reducible rfl
          rotate_left
          ·simp only [Act.put, List.setIfInBounds_toArray, List.set_cons_zero, List.set_cons_succ, i64_w, i32_w]
           rfl
          refine pure_ (i := 3) (N := some 99) (v := ?_) (a' := ?_) #[true, true, true, true, false, false, true, true, false, false, false, false, false, false] rfl rfl (any_of HT_.out (by kernel_rfl)) (fun _ _ _ h => h) (Or.inl ⟨by rfl, ?_⟩) ?_ ?_
          rotate_left
          ·intro w'
           go_simp
           with_reducible rfl
          rotate_left
          ·simp only [Act.put, List.setIfInBounds_toArray, List.set_cons_zero, List.set_cons_succ, i64_w, i32_w]
           rfl
          refine pure_ (i := 4) (N := some 100) (v := ?_) (a' := ?_) #[true, true, true, true, true, false, true, true, false, false, false, false, false, false] rfl rfl (any_of HT_.out (by kernel_rfl)) (fun _ _ _ h => h) (Or.inl ⟨by rfl, ?_⟩) ?_ ?_
          rotate_left
          ·intro w'
           go_simp
           with_reducible rfl
          rotate_left
          ·simp only [Act.put, List.setIfInBounds_toArray, List.set_cons_zero, List.set_cons_succ, i64_w, i32_w]
           rfl
          refine take_ (i := 5) (N := some 101) (v := ?_) (a' := ?_) #[true, true, true, true, true, true, true, true, false, false, false, false, false, false] rfl rfl (take_ofW HT_.out HW_.out (by kernel_rfl)) (fun _ _ _ h => h) (Or.inl ⟨by rfl, ?_⟩) hHeld ?_ ?_
          rotate_left
          ·rintro w' ⟨s0, s1, s2, s3⟩
           go_simp
           with_reducible rfl
          rotate_left
          ·simp only [Act.put, List.setIfInBounds_toArray, List.set_cons_zero, List.set_cons_succ, i64_w, i32_w]
           rfl
          refine take_ (i := 8) (N := some 104) (v := ?_) (a' := ?_) #[true, true, true, true, true, true, true, true, true, false, false, false, false, false] rfl rfl (take_ofW HT_.out HW_.out (by kernel_rfl)) (fun _ _ _ h => h) (Or.inl ⟨by rfl, ?_⟩) hHeld ?_ ?_
          rotate_left
          ·rintro w' ⟨s0, s1, s2, s3⟩
           go_simp
           with_reducible rfl
          rotate_left
          ·simp only [Act.put, List.setIfInBounds_toArray, List.set_cons_zero, List.set_cons_succ, i64_w, i32_w]
           rfl
          refine pure_ (i := 9) (N := some 105) (v := ?_) (a' := ?_) #[true, true, true, true, true, true, true, true, true, true, false, false, false, false] rfl rfl (any_of HT_.out (by kernel_rfl)) (fun _ _ _ h => h) (Or.inl ⟨by rfl, ?_⟩) ?_ ?_
          rotate_left
          ·intro w'
           go_simp
           with_reducible rfl
          rotate_left
          ·simp only [Act.put, List.setIfInBounds_toArray, List.set_cons_zero, List.set_cons_succ, i64_w, i32_w]
           rfl
          refine pure_ (i := 10) (N := some 106) (v := ?_) (a' := ?_) #[true, true, true, true, true, true, true, true, true, true, true, false, false, false] rfl rfl (any_of HT_.out (by kernel_rfl)) (fun _ _ _ h => h) (Or.inl ⟨by rfl, ?_⟩) ?_ ?_
          rotate_left
          ·intro w'
           go_simp
           with_reducible rfl
          rotate_left
          ·simp only [Act.put, List.setIfInBounds_toArray, List.set_cons_zero, List.set_cons_succ, i64_w, i32_w]
           rfl
          refine take_ (i := 11) (N := some 107) (v := ?_) (a' := ?_) #[true, true, true, true, true, true, true, true, true, true, true, true, false, false] rfl rfl (take_ofW HT_.out HW_.out (by kernel_rfl)) (fun _ _ _ h => h) (Or.inl ⟨by rfl, ?_⟩) hHeld ?_ ?_
          rotate_left
          ·rintro w' ⟨s0, s1, s2, s3⟩
           go_simp
           with_reducible rfl
          rotate_left
          ·simp only [Act.put, List.setIfInBounds_toArray, List.set_cons_zero, List.set_cons_succ, i64_w, i32_w]
           rfl
          refine one_ (i := 12) (N := some 108) #[true, true, true, true, true, true, true, true, true, true, true, true, true, false] rfl rfl (one_of HT_.out (by kernel_rfl)) (by decide) (fun K hK => ?_)
          refine goes_ Try.func44 (by kernel_rfl) rfl #[.int .i64 kk, .int .i64 km] (by rfl) rfl rfl (by simp only [List.map_toArray, List.map_cons, List.map_nil]; rfl) ?_
          with_reducible refine (tree_stands.calls kk km false _ hst.out).mono ?_
          rintro e w9 ⟨rfl, hds⟩
          refine ⟨_, rfl, ?_⟩
          have hb9 : Below V.heap.size V w9 := (below_drew1 (Below.refl _ V)).trans hds.below
          refine hK.out _ _ ⟨((hb9.cell (p := ⟨t, 0, none⟩) htlt).trans zt0), ((hb9.cell (p := ⟨u, 0, none⟩) hult).trans zu0), ((hb9.cell (p := ⟨(ad.add (n1.toNat * 5)).block, (ad.add (n1.toNat * 5)).off + 2, none⟩) (World.block_lt_of_cell? V _ zk)).trans zk), ((hb9.cell (p := ⟨(ad.add (p1.toNat * 5)).block, (ad.add (p1.toNat * 5)).off + 2, none⟩) (World.block_lt_of_cell? V _ zm)).trans zm)⟩ (fun hHeld => ?_)
          clear hK K
          refine norm_ (a' := ?_) ?_ ?_
          rotate_left
          ·show Act.put _ (some 108) _ = _
           simp only [Act.put, List.setIfInBounds_toArray, List.set_cons_zero, List.set_cons_succ, i64_w, i32_w]
           rfl
          refine pure_ (i := 13) (N := some 109) (v := ?_) (a' := ?_) #[true, true, true, true, true, true, true, true, true, true, true, true, true, true] rfl rfl (any_of HT_.out (by kernel_rfl)) (fun _ _ _ h => h) (Or.inl ⟨by rfl, ?_⟩) ?_ ?_
          rotate_left
          ·intro w'
           go_simp
           with_reducible rfl
          rotate_left
          ·simp only [Act.put, List.setIfInBounds_toArray, List.set_cons_zero, List.set_cons_succ, i64_w, i32_w]
           rfl
          refine done_ (done_of HT_.out (by kernel_rfl)) ?_

          have HBn := Aside0.mk (HB.out.trans (hb9.mono HB.out.size))
          have HMn := Aside0.mk (HM.out.below hb9)
          have HNn := Aside0.mk ((hb9.block g (blk_lt HN.out)).trans HN.out)
          have HTn := Aside0.mk ((hb9.block t (blk_lt HT.out)).trans HT.out)
          have HUn := Aside0.mk ((hb9.block u (blk_lt HU.out)).trans HU.out)
          have HSn := Aside0.mk (Kd.R_below HS.out hb9)
          have HGon := Aside0.mk (Kd.R_below HGo.out hb9)
          clear HB HM HN HT HU HS HGo y0 hlt hne
          have HB := HBn
          have HM := HMn
          have HN := HNn
          have HT := HTn
          have HU := HUn
          have HS := HSn
          have HGo := HGon
          clear HBn HMn HNn HTn HUn HSn HGon
          have y0 : w9.cell? ⟨g, 0, none⟩ = some (.int .i64 par) := blk_cell HN.out 0
          have hlt : g < w9.heap.size := blk_lt HN.out
          have hne : g ≠ w9.heap.size := Nat.ne_of_lt hlt
          clear zt0 zu0 zk zm htlt hult hb9
          go_wp2
          go_ret2
          exact ⟨_, rfl, Kd.R_nil _ _ _ _ _, HB.out⟩
    ·have hbzb : (b != 0) = true := by simpa using hbz
     by_cases hidb : idB b = true
     ·have hbid : Aside0 (tree_isID.f b = some true) := ⟨by rw [idB_f, hidb]⟩
      cases hm0 : mlook D id with
      | none =>
       have hb1x : ∃ q1 q2 qb, ((mlook D par).map encP).getD (.agg #[.int .i64 0, .int .i64 0]) = .agg #[.int .i64 q1, .int .i64 q2] ∧ (mlook D par).isSome = qb := by cases mlook D par <;> exact ⟨_, _, _, rfl, rfl⟩
       obtain ⟨q1, q2, qb, hq1, hq2⟩ := hb1x
       have hv1 := Aside0.mk hq1
       have hb1 := Aside0.mk hq2
       clear hq1 hq2
       have hv0 : Aside0 (((mlook D id).map encP).getD (.agg #[.int .i64 0, .int .i64 0]) = .agg #[.int .i64 0, .int .i64 0]) := ⟨by rw [hm0]; rfl⟩
       have hb0 : Aside0 ((mlook D id).isSome = false) := ⟨by rw [hm0]; rfl⟩
       have H2 := HP.out
       unfold moveP at H2
       rw [HD.out] at H2
       simp [Hid.out, Hpar.out, hbz, hidb, hm0] at H2
       obtain ⟨rfl, rfl⟩ := H2
       clear hm0 HP
       go_wp2_with (first | (go_at_call_of 32 (Value.int .i64 id); (with_reducible refine (tree_isID.calls id true _ hid.out).mono ?_); rintro e w2 ⟨rfl, hd⟩; have HBn := Aside0.mk (HB.out.trans (hd.below.mono HB.out.size)); have HMn := Aside0.mk (HM.out.below hd.below); have HNn := Aside0.mk ((hd.below.block g (blk_lt HN.out)).trans HN.out); clear HB HM HN y0 hlt hne; have HB := HBn; have HM := HMn; have HN := HNn; clear HBn HMn HNn; have y0 : w2.cell? ⟨g, 0, none⟩ = some (.int .i64 par) := blk_cell HN.out 0; have hlt : g < w2.heap.size := blk_lt HN.out; have hne : g ≠ w2.heap.size := Nat.ne_of_lt hlt; clear hd) | (go_at_call_of 32 (Value.int .i64 par); (with_reducible refine (tree_isID.calls par true _ hpar.out).mono ?_); rintro e w2 ⟨rfl, hd⟩; have HBn := Aside0.mk (HB.out.trans (hd.below.mono HB.out.size)); have HMn := Aside0.mk (HM.out.below hd.below); have HNn := Aside0.mk ((hd.below.block g (blk_lt HN.out)).trans HN.out); clear HB HM HN y0 hlt hne; have HB := HBn; have HM := HMn; have HN := HNn; clear HBn HMn HNn; have y0 : w2.cell? ⟨g, 0, none⟩ = some (.int .i64 par) := blk_cell HN.out 0; have hlt : g < w2.heap.size := blk_lt HN.out; have hne : g ≠ w2.heap.size := Nat.ne_of_lt hlt; clear hd) | (go_at_call_of 32 (Value.int .i64 b); (with_reducible refine (tree_isID.calls b true _ hbid.out).mono ?_); rintro e w2 ⟨rfl, hd⟩; have HBn := Aside0.mk (HB.out.trans (hd.below.mono HB.out.size)); have HMn := Aside0.mk (HM.out.below hd.below); have HNn := Aside0.mk ((hd.below.block g (blk_lt HN.out)).trans HN.out); clear HB HM HN y0 hlt hne; have HB := HBn; have HM := HMn; have HN := HNn; clear HBn HMn HNn; have y0 : w2.cell? ⟨g, 0, none⟩ = some (.int .i64 par) := blk_cell HN.out 0; have hlt : g < w2.heap.size := blk_lt HN.out; have hne : g ≠ w2.heap.size := Nat.ne_of_lt hlt; clear hd) | (at_lookup; refine wpList_lookup_ok _ rfl (.tmp 47) (.tmp 48) 46 rfl 3 51 (KeyOK.int .i64) Try.underlying46 Try.underlying3 (zero51 _) rfl HM.out id rfl _ hv0.out _ hb0.out ?_) | (at_lookup; refine wpList_lookup_ok _ rfl (.tmp 53) (.tmp 54) 46 rfl 3 51 (KeyOK.int .i64) Try.underlying46 Try.underlying3 (zero51 _) rfl (HM.out.alloc _) par rfl _ hv1.out _ hb1.out ?_))
       go_ret2
       exact ⟨_, rfl, Kd.R_nil _ _ _ _ _, below_alloc (below_alloc HB.out _) _⟩
      | some pn =>
       obtain ⟨n1, n2⟩ := pn
       have hv0 : Aside0 (((mlook D id).map encP).getD (.agg #[.int .i64 0, .int .i64 0]) = .agg #[.int .i64 n1, .int .i64 n2]) := ⟨by rw [hm0]; rfl⟩
       have hb0 : Aside0 ((mlook D id).isSome = true) := ⟨by rw [hm0]; rfl⟩
       have Hm0 := Aside0.mk hm0
       have hI0 := HI.out _ _ hm0
       simp only at hI0
       clear hm0
       cases hm1 : mlook D par with
       | none =>
        have hv1 : Aside0 (((mlook D par).map encP).getD (.agg #[.int .i64 0, .int .i64 0]) = .agg #[.int .i64 0, .int .i64 0]) := ⟨by rw [hm1]; rfl⟩
        have hb1 : Aside0 ((mlook D par).isSome = false) := ⟨by rw [hm1]; rfl⟩
        have H2 := HP.out
        unfold moveP at H2
        rw [HD.out] at H2
        simp [Hid.out, Hpar.out, hbz, hidb, Hm0.out, hm1] at H2
        obtain ⟨rfl, rfl⟩ := H2
        clear hm1 HP
        go_wp2_with (first | (go_at_call_of 32 (Value.int .i64 id); (with_reducible refine (tree_isID.calls id true _ hid.out).mono ?_); rintro e w2 ⟨rfl, hd⟩; have HBn := Aside0.mk (HB.out.trans (hd.below.mono HB.out.size)); have HMn := Aside0.mk (HM.out.below hd.below); have HNn := Aside0.mk ((hd.below.block g (blk_lt HN.out)).trans HN.out); clear HB HM HN y0 hlt hne; have HB := HBn; have HM := HMn; have HN := HNn; clear HBn HMn HNn; have y0 : w2.cell? ⟨g, 0, none⟩ = some (.int .i64 par) := blk_cell HN.out 0; have hlt : g < w2.heap.size := blk_lt HN.out; have hne : g ≠ w2.heap.size := Nat.ne_of_lt hlt; clear hd) | (go_at_call_of 32 (Value.int .i64 par); (with_reducible refine (tree_isID.calls par true _ hpar.out).mono ?_); rintro e w2 ⟨rfl, hd⟩; have HBn := Aside0.mk (HB.out.trans (hd.below.mono HB.out.size)); have HMn := Aside0.mk (HM.out.below hd.below); have HNn := Aside0.mk ((hd.below.block g (blk_lt HN.out)).trans HN.out); clear HB HM HN y0 hlt hne; have HB := HBn; have HM := HMn; have HN := HNn; clear HBn HMn HNn; have y0 : w2.cell? ⟨g, 0, none⟩ = some (.int .i64 par) := blk_cell HN.out 0; have hlt : g < w2.heap.size := blk_lt HN.out; have hne : g ≠ w2.heap.size := Nat.ne_of_lt hlt; clear hd) | (go_at_call_of 32 (Value.int .i64 b); (with_reducible refine (tree_isID.calls b true _ hbid.out).mono ?_); rintro e w2 ⟨rfl, hd⟩; have HBn := Aside0.mk (HB.out.trans (hd.below.mono HB.out.size)); have HMn := Aside0.mk (HM.out.below hd.below); have HNn := Aside0.mk ((hd.below.block g (blk_lt HN.out)).trans HN.out); clear HB HM HN y0 hlt hne; have HB := HBn; have HM := HMn; have HN := HNn; clear HBn HMn HNn; have y0 : w2.cell? ⟨g, 0, none⟩ = some (.int .i64 par) := blk_cell HN.out 0; have hlt : g < w2.heap.size := blk_lt HN.out; have hne : g ≠ w2.heap.size := Nat.ne_of_lt hlt; clear hd) | (at_lookup; refine wpList_lookup_ok _ rfl (.tmp 47) (.tmp 48) 46 rfl 3 51 (KeyOK.int .i64) Try.underlying46 Try.underlying3 (zero51 _) rfl HM.out id rfl _ hv0.out _ hb0.out ?_) | (at_lookup; refine wpList_lookup_ok _ rfl (.tmp 53) (.tmp 54) 46 rfl 3 51 (KeyOK.int .i64) Try.underlying46 Try.underlying3 (zero51 _) rfl (HM.out.alloc _) par rfl _ hv1.out _ hb1.out ?_))
        go_ret2
        exact ⟨_, rfl, Kd.R_nil _ _ _ _ _, below_alloc (below_alloc HB.out _) _⟩
       | some pp =>
        obtain ⟨p1, p2⟩ := pp
        have hv1 : Aside0 (((mlook D par).map encP).getD (.agg #[.int .i64 0, .int .i64 0]) = .agg #[.int .i64 p1, .int .i64 p2]) := ⟨by rw [hm1]; rfl⟩
        have hb1 : Aside0 ((mlook D par).isSome = true) := ⟨by rw [hm1]; rfl⟩
        have Hm1 := Aside0.mk hm1
        have hI1 := HI.out _ _ hm1
        simp only at hI1
        clear hm1
        have hn1a : 0 ≤ n1 := hI0.1
        have hn1b : n1 < (l0.length : Int) := hI0.2.1
        have hp1a : 0 ≤ p1 := hI1.1
        have hp1b : p1 < (l0.length : Int) := hI1.2.1
        clear hI0 hI1
        go_wp2_with (first | (go_at_call_of 32 (Value.int .i64 id); (with_reducible refine (tree_isID.calls id true _ hid.out).mono ?_); rintro e w2 ⟨rfl, hd⟩; have HBn := Aside0.mk (HB.out.trans (hd.below.mono HB.out.size)); have HMn := Aside0.mk (HM.out.below hd.below); have HNn := Aside0.mk ((hd.below.block g (blk_lt HN.out)).trans HN.out); clear HB HM HN y0 hlt hne; have HB := HBn; have HM := HMn; have HN := HNn; clear HBn HMn HNn; have y0 : w2.cell? ⟨g, 0, none⟩ = some (.int .i64 par) := blk_cell HN.out 0; have hlt : g < w2.heap.size := blk_lt HN.out; have hne : g ≠ w2.heap.size := Nat.ne_of_lt hlt; clear hd) | (go_at_call_of 32 (Value.int .i64 par); (with_reducible refine (tree_isID.calls par true _ hpar.out).mono ?_); rintro e w2 ⟨rfl, hd⟩; have HBn := Aside0.mk (HB.out.trans (hd.below.mono HB.out.size)); have HMn := Aside0.mk (HM.out.below hd.below); have HNn := Aside0.mk ((hd.below.block g (blk_lt HN.out)).trans HN.out); clear HB HM HN y0 hlt hne; have HB := HBn; have HM := HMn; have HN := HNn; clear HBn HMn HNn; have y0 : w2.cell? ⟨g, 0, none⟩ = some (.int .i64 par) := blk_cell HN.out 0; have hlt : g < w2.heap.size := blk_lt HN.out; have hne : g ≠ w2.heap.size := Nat.ne_of_lt hlt; clear hd) | (go_at_call_of 32 (Value.int .i64 b); (with_reducible refine (tree_isID.calls b true _ hbid.out).mono ?_); rintro e w2 ⟨rfl, hd⟩; have HBn := Aside0.mk (HB.out.trans (hd.below.mono HB.out.size)); have HMn := Aside0.mk (HM.out.below hd.below); have HNn := Aside0.mk ((hd.below.block g (blk_lt HN.out)).trans HN.out); clear HB HM HN y0 hlt hne; have HB := HBn; have HM := HMn; have HN := HNn; clear HBn HMn HNn; have y0 : w2.cell? ⟨g, 0, none⟩ = some (.int .i64 par) := blk_cell HN.out 0; have hlt : g < w2.heap.size := blk_lt HN.out; have hne : g ≠ w2.heap.size := Nat.ne_of_lt hlt; clear hd) | (at_lookup; refine wpList_lookup_ok _ rfl (.tmp 47) (.tmp 48) 46 rfl 3 51 (KeyOK.int .i64) Try.underlying46 Try.underlying3 (zero51 _) rfl HM.out id rfl _ hv0.out _ hb0.out ?_) | (at_lookup; refine wpList_lookup_ok _ rfl (.tmp 53) (.tmp 54) 46 rfl 3 51 (KeyOK.int .i64) Try.underlying46 Try.underlying3 (zero51 _) rfl (HM.out.alloc _) par rfl _ hv1.out _ hb1.out ?_))
        have HBn := Aside0.mk (below_alloc (below_alloc HB.out (.cells #[.int .i64 n1, .int .i64 n2] 51)) (.cells #[.int .i64 p1, .int .i64 p2] 51))
        have HMn := Aside0.mk ((HM.out.alloc (.cells #[.int .i64 n1, .int .i64 n2] 51)).alloc (.cells #[.int .i64 p1, .int .i64 p2] 51))
        have HNn := Aside0.mk (blk_alloc (blk_alloc HN.out (.cells #[.int .i64 n1, .int .i64 n2] 51)) (.cells #[.int .i64 p1, .int .i64 p2] 51))
        have HTn := Aside0.mk (blk_alloc (heap_alloc_new w2 (.cells #[.int .i64 n1, .int .i64 n2] 51)) (.cells #[.int .i64 p1, .int .i64 p2] 51))
        have HUn := Aside0.mk (show ((w2.alloc (.cells #[.int .i64 n1, .int .i64 n2] 51)).alloc (.cells #[.int .i64 p1, .int .i64 p2] 51)).heap[w2.heap.size + 1]? = some (.cells #[.int .i64 p1, .int .i64 p2] 51 (0, 0)) from by have h_ := heap_alloc_new (w2.alloc (.cells #[.int .i64 n1, .int .i64 n2] 51)) (.cells #[.int .i64 p1, .int .i64 p2] 51); simpa using h_)
        clear HB HM HN y0 hlt hne
        generalize (w2.alloc (.cells #[.int .i64 n1, .int .i64 n2] 51)).alloc (.cells #[.int .i64 p1, .int .i64 p2] 51) = W at HBn HMn HNn HTn HUn ⊢
        generalize w2.heap.size + 1 = u at HUn ⊢
        generalize w2.heap.size = t at HTn ⊢
        have HB := HBn
        have HM := HMn
        have HN := HNn
        have HT := HTn
        have HU := HUn
        clear HBn HMn HNn HTn HUn
        have y0 : W.cell? ⟨g, 0, none⟩ = some (.int .i64 par) := blk_cell HN.out 0
        have hlt : g < W.heap.size := blk_lt HN.out
        have hne : g ≠ W.heap.size := Nat.ne_of_lt hlt
        refine (split_calls _ c0 l0 id W (Kd.C_below HR.out HB.out) HC0.out HL.out).mono ?_
        rintro e w5 ⟨vs, vg, rfl, hS, hGn, hb5⟩
        obtain ⟨st, hst_⟩ : ∃ st, st = (splitP l0 id).1 := ⟨_, rfl⟩
        obtain ⟨gn, hgn_⟩ : ∃ gn, gn = (splitP l0 id).2 := ⟨_, rfl⟩
        rw [← hst_] at hS
        rw [← hgn_] at hGn
        have HSt := Aside0.mk hst_
        have HGn_ := Aside0.mk hgn_
        have Hlen := Aside0.mk (splitP_len l0 id)
        rw [← hst_, ← hgn_] at Hlen
        clear hst_ hgn_
        obtain ⟨As, cs, rfl⟩ := Kd.R_slice hS
        obtain ⟨Ag, cg, rfl⟩ := Kd.R_slice hGn
        have HS := Aside0.mk (Kd.R_lower hS HB.out.size)
        have HGo := Aside0.mk (Kd.R_lower hGn HB.out.size)
        clear hS hGn
        have HBn := Aside0.mk (HB.out.trans (hb5.mono HB.out.size))
        have HMn := Aside0.mk (HM.out.below hb5)
        have HNn := Aside0.mk ((hb5.block g (blk_lt HN.out)).trans HN.out)
        have HTn := Aside0.mk ((hb5.block t (blk_lt HT.out)).trans HT.out)
        have HUn := Aside0.mk ((hb5.block u (blk_lt HU.out)).trans HU.out)
        clear HB HM HN HT HU y0 hlt hne
        have HB := HBn
        have HM := HMn
        have HN := HNn
        have HT := HTn
        have HU := HUn
        clear HBn HMn HNn HTn HUn
        have y0 : w5.cell? ⟨g, 0, none⟩ = some (.int .i64 par) := blk_cell HN.out 0
        have hlt : g < w5.heap.size := blk_lt HN.out
        have hne : g ≠ w5.heap.size := Nat.ne_of_lt hlt
        clear hb5
        by_cases hn0 : n1 = 0
        ·obtain ⟨cb, hcb⟩ : ∃ cb, decide (0 ≤ ixFind (fun n => decide (n.f0 = par)) gn) = cb := ⟨_, rfl⟩
         have hcf := Aside0.mk hcb
         clear hcb
         have hn0b : (n1 == 0) = true := by simpa using hn0
         have H2 := HP.out
         unfold moveP at H2
         rw [HD.out] at H2
         simp [Hid.out, Hpar.out, hbz, hidb, Hm0.out, Hm1.out, hn0] at H2
         obtain ⟨rfl, rfl⟩ := H2
         clear hn0 HP
         go_wp2_with (first | (go_at_call 50; (with_reducible refine (containsFunc_calls Ag cg gn g par _ (Kd.R_reads' HGo.out).2.2 (Kd.R_reads' HGo.out).2.1 HN.out cb hcf.out).mono ?_); rintro e w6 ⟨rfl, hb6⟩; have HBn := Aside0.mk (HB.out.trans (hb6.mono HB.out.size)); have HMn := Aside0.mk (HM.out.below hb6); have HNn := Aside0.mk ((hb6.block g (blk_lt HN.out)).trans HN.out); have HTn := Aside0.mk ((hb6.block t (blk_lt HT.out)).trans HT.out); have HUn := Aside0.mk ((hb6.block u (blk_lt HU.out)).trans HU.out); have HSn := Aside0.mk (Kd.R_below HS.out hb6); have HGon := Aside0.mk (Kd.R_below HGo.out hb6); clear HB HM HN HT HU HS HGo y0 hlt hne; have HB := HBn; have HM := HMn; have HN := HNn; have HT := HTn; have HU := HUn; have HS := HSn; have HGo := HGon; clear HBn HMn HNn HTn HUn HSn HGon; have y0 : w6.cell? ⟨g, 0, none⟩ = some (.int .i64 par) := blk_cell HN.out 0; have hlt : g < w6.heap.size := blk_lt HN.out; have hne : g ≠ w6.heap.size := Nat.ne_of_lt hlt; clear hb6; have zt0 : w6.cell? ⟨t, 0, none⟩ = some (.int .i64 n1) := blk_cell HT.out 0))
         go_ret2
         exact ⟨_, rfl, Kd.R_nil _ _ _ _ _, HB.out⟩
        ·have hn0b : (n1 == 0) = false := by simpa using hn0
         have Hn0 := Aside0.mk hn0
         clear hn0
         by_cases hcf_ : insideB gn par = true
         ·have hcf : Aside0 (decide (0 ≤ ixFind (fun n => decide (n.f0 = par)) gn) = true) := ⟨hcf_⟩
          rw [HGn_.out] at hcf_
          have H2 := HP.out
          unfold moveP at H2
          rw [HD.out] at H2
          simp [Hid.out, Hpar.out, hbz, hidb, Hm0.out, Hm1.out, Hn0.out, hcf_] at H2
          obtain ⟨rfl, rfl⟩ := H2
          clear hcf_ HP
          go_wp2_with (first | (go_at_call 50; (with_reducible refine (containsFunc_calls Ag cg gn g par _ (Kd.R_reads' HGo.out).2.2 (Kd.R_reads' HGo.out).2.1 HN.out true hcf.out).mono ?_); rintro e w6 ⟨rfl, hb6⟩; have HBn := Aside0.mk (HB.out.trans (hb6.mono HB.out.size)); have HMn := Aside0.mk (HM.out.below hb6); have HNn := Aside0.mk ((hb6.block g (blk_lt HN.out)).trans HN.out); have HTn := Aside0.mk ((hb6.block t (blk_lt HT.out)).trans HT.out); have HUn := Aside0.mk ((hb6.block u (blk_lt HU.out)).trans HU.out); have HSn := Aside0.mk (Kd.R_below HS.out hb6); have HGon := Aside0.mk (Kd.R_below HGo.out hb6); clear HB HM HN HT HU HS HGo y0 hlt hne; have HB := HBn; have HM := HMn; have HN := HNn; have HT := HTn; have HU := HUn; have HS := HSn; have HGo := HGon; clear HBn HMn HNn HTn HUn HSn HGon; have y0 : w6.cell? ⟨g, 0, none⟩ = some (.int .i64 par) := blk_cell HN.out 0; have hlt : g < w6.heap.size := blk_lt HN.out; have hne : g ≠ w6.heap.size := Nat.ne_of_lt hlt; clear hb6; have zt0 : w6.cell? ⟨t, 0, none⟩ = some (.int .i64 n1) := blk_cell HT.out 0))
          go_ret2
          exact ⟨_, rfl, Kd.R_nil _ _ _ _ _, HB.out⟩
         ·have hcf : Aside0 (decide (0 ≤ ixFind (fun n => decide (n.f0 = par)) gn) = false) := ⟨by simpa [insideB] using hcf_⟩
          have Hcf := Aside0.mk (show insideB gn par = false by simpa using hcf_)
          rw [HGn_.out] at Hcf
          clear hcf_
          by_cases hbi : b = id
          ·have hbib : (b == id) = true := by simpa using hbi
           have Hbi := Aside0.mk hbi
           have hidz : ¬ id = 0 := by rw [← hbi]; exact hbz
           have H2 := HP.out
           unfold moveP at H2
           rw [HD.out] at H2
           simp [Hid.out, Hpar.out, hbz, hidb, Hm0.out, Hm1.out, Hn0.out, Hcf.out, hbi, hidz] at H2
           obtain ⟨rfl, rfl⟩ := H2
           clear hbi hidz HP
           go_wp2_with (first | (go_at_call 50; (with_reducible refine (containsFunc_calls Ag cg gn g par _ (Kd.R_reads' HGo.out).2.2 (Kd.R_reads' HGo.out).2.1 HN.out false hcf.out).mono ?_); rintro e w6 ⟨rfl, hb6⟩; have HBn := Aside0.mk (HB.out.trans (hb6.mono HB.out.size)); have HMn := Aside0.mk (HM.out.below hb6); have HNn := Aside0.mk ((hb6.block g (blk_lt HN.out)).trans HN.out); have HTn := Aside0.mk ((hb6.block t (blk_lt HT.out)).trans HT.out); have HUn := Aside0.mk ((hb6.block u (blk_lt HU.out)).trans HU.out); have HSn := Aside0.mk (Kd.R_below HS.out hb6); have HGon := Aside0.mk (Kd.R_below HGo.out hb6); clear HB HM HN HT HU HS HGo y0 hlt hne; have HB := HBn; have HM := HMn; have HN := HNn; have HT := HTn; have HU := HUn; have HS := HSn; have HGo := HGon; clear HBn HMn HNn HTn HUn HSn HGon; have y0 : w6.cell? ⟨g, 0, none⟩ = some (.int .i64 par) := blk_cell HN.out 0; have hlt : g < w6.heap.size := blk_lt HN.out; have hne : g ≠ w6.heap.size := Nat.ne_of_lt hlt; clear hb6; have zt0 : w6.cell? ⟨t, 0, none⟩ = some (.int .i64 n1) := blk_cell HT.out 0))
           go_ret2
           exact ⟨_, rfl, Kd.R_nil _ _ _ _ _, HB.out⟩
          ·have hbib : (b == id) = false := by simpa using hbi
           have Hbi := Aside0.mk hbi
           clear hbi
           by_cases hk : b ∈ kidsL l0 par
           ·have hin : Aside0 (slices_Contains_int_int.f 4001 (kidsL l0 par) b = some true) := ⟨by rw [contains_f _ _ (Nat.le_trans (kidsL_len _ _) HL.out)]; simpa using hk⟩
            have Hk := Aside0.mk hk
            clear hk
            go_wp2_with (first | (go_at_call 50; (with_reducible refine (containsFunc_calls Ag cg gn g par _ (Kd.R_reads' HGo.out).2.2 (Kd.R_reads' HGo.out).2.1 HN.out false hcf.out).mono ?_); rintro e w6 ⟨rfl, hb6⟩; have HBn := Aside0.mk (HB.out.trans (hb6.mono HB.out.size)); have HMn := Aside0.mk (HM.out.below hb6); have HNn := Aside0.mk ((hb6.block g (blk_lt HN.out)).trans HN.out); have HTn := Aside0.mk ((hb6.block t (blk_lt HT.out)).trans HT.out); have HUn := Aside0.mk ((hb6.block u (blk_lt HU.out)).trans HU.out); have HSn := Aside0.mk (Kd.R_below HS.out hb6); have HGon := Aside0.mk (Kd.R_below HGo.out hb6); clear HB HM HN HT HU HS HGo y0 hlt hne; have HB := HBn; have HM := HMn; have HN := HNn; have HT := HTn; have HU := HUn; have HS := HSn; have HGo := HGon; clear HBn HMn HNn HTn HUn HSn HGon; have y0 : w6.cell? ⟨g, 0, none⟩ = some (.int .i64 par) := blk_cell HN.out 0; have hlt : g < w6.heap.size := blk_lt HN.out; have hne : g ≠ w6.heap.size := Nat.ne_of_lt hlt; clear hb6; have zt0 : w6.cell? ⟨t, 0, none⟩ = some (.int .i64 n1) := blk_cell HT.out 0) | (go_at_call 38; (with_reducible refine (tree_kids.calls 4001 _ c0 l0 par (kidsL l0 par) _ (Kd.C_below HR.out HB.out) HC0.out (kids_f _ _ HL.out)).mono ?_); rintro e w7 ⟨v7, rfl, hR7, hb7⟩; obtain ⟨A7, c7, rfl⟩ := Kd.R_slice hR7; have HK := Aside0.mk (Kd.R_reads' hR7); clear hR7; have HBn := Aside0.mk (HB.out.trans (hb7.mono HB.out.size)); have HMn := Aside0.mk (HM.out.below hb7); have HNn := Aside0.mk ((hb7.block g (blk_lt HN.out)).trans HN.out); have HTn := Aside0.mk ((hb7.block t (blk_lt HT.out)).trans HT.out); have HUn := Aside0.mk ((hb7.block u (blk_lt HU.out)).trans HU.out); have HSn := Aside0.mk (Kd.R_below HS.out hb7); have HGon := Aside0.mk (Kd.R_below HGo.out hb7); clear HB HM HN HT HU HS HGo y0 hlt hne; have HB := HBn; have HM := HMn; have HN := HNn; have HT := HTn; have HU := HUn; have HS := HSn; have HGo := HGon; clear HBn HMn HNn HTn HUn HSn HGon; have y0 : w7.cell? ⟨g, 0, none⟩ = some (.int .i64 par) := blk_cell HN.out 0; have hlt : g < w7.heap.size := blk_lt HN.out; have hne : g ≠ w7.heap.size := Nat.ne_of_lt hlt; clear hb7) | (go_at_call 43; (with_reducible refine (slices_Contains_int_int.calls 4001 A7 c7 (kidsL l0 par) b true _ HK.out.2.2 HK.out.2.1 hin.out).mono ?_); rintro e w8 ⟨rfl, hd⟩; have HBn := Aside0.mk (HB.out.trans (hd.below.mono HB.out.size)); have HMn := Aside0.mk (HM.out.below hd.below); have HNn := Aside0.mk ((hd.below.block g (blk_lt HN.out)).trans HN.out); have HTn := Aside0.mk ((hd.below.block t (blk_lt HT.out)).trans HT.out); have HUn := Aside0.mk ((hd.below.block u (blk_lt HU.out)).trans HU.out); have HSn := Aside0.mk (Kd.R_below HS.out hd.below); have HGon := Aside0.mk (Kd.R_below HGo.out hd.below); clear HB HM HN HT HU HS HGo y0 hlt hne; have HB := HBn; have HM := HMn; have HN := HNn; have HT := HTn; have HU := HUn; have HS := HSn; have HGo := HGon; clear HBn HMn HNn HTn HUn HSn HGon; have y0 : w8.cell? ⟨g, 0, none⟩ = some (.int .i64 par) := blk_cell HN.out 0; have hlt : g < w8.heap.size := blk_lt HN.out; have hne : g ≠ w8.heap.size := Nat.ne_of_lt hlt; clear hd))
            obtain ⟨V, rfl⟩ : ∃ V0 : World, V0 = w8 := ⟨_, rfl⟩
            clear zt0
            have zt0 : V.cell? ⟨t, 0, none⟩ = some (.int .i64 n1) := blk_cell HT.out 0
            have zu0 : V.cell? ⟨u, 0, none⟩ = some (.int .i64 p1) := blk_cell HU.out 0
            have htlt := blk_lt HT.out
            have hult := blk_lt HU.out
            obtain ⟨ad, e2, _, _, zk, _, _⟩ := at_T24 (Kd.C_below HR.out HB.out) n1 hn1a hn1b
            obtain ⟨ad2, e3, _, _, zm, _, _⟩ := at_T24 (Kd.C_below HR.out HB.out) p1 hp1a hp1b
            subst e2
            obtain rfl : ad = ad2 := by injection e3
            clear e3
            obtain ⟨kk, hkk⟩ : ∃ kk, kk = (rd_T24 l0 n1).f2 := ⟨_, rfl⟩
            obtain ⟨km, hkm⟩ : ∃ km, km = (rd_T24 l0 p1).f2 := ⟨_, rfl⟩
            rw [← hkk] at zk
            rw [← hkm] at zm
            have Hkk := Aside0.mk hkk
            have Hkm := Aside0.mk hkm
            clear hkk hkm
            have hn1c := eq_true hn1a
            have hn1d := eq_true hn1b
            have hp1c := eq_true hp1a
            have hp1d := eq_true hp1b
            have hn1e : decide (0 ≤ n1) = true := decide_eq_true hn1a
            have hn1f : decide (n1 < (l0.length : Int)) = true := decide_eq_true hn1b
            have hp1e : decide (0 ≤ p1) = true := decide_eq_true hp1a
            have hp1f : decide (p1 < (l0.length : Int)) = true := decide_eq_true hp1b
            by_cases hs : standsB kk km = true
            ·have hst : Aside0 (tree_stands.f kk km = some true) := ⟨by rw [stands_f, hs]⟩
             have hsf : Aside0 (standsB (rd_T24 l0 n1).f2 (rd_T24 l0 p1).f2 = true) := ⟨by rw [← Hkk.out, ← Hkm.out]; exact hs⟩
             clear hs
             refine start_ (n := 14) (S := fun w' => w'.cell? ⟨t, 0, none⟩ = some (.int .i64 n1) ∧ w'.cell? ⟨u, 0, none⟩ = some (.int .i64 p1) ∧ w'.cell? ⟨(ad.add (n1.toNat * 5)).block, (ad.add (n1.toNat * 5)).off + 2, none⟩ = some (.int .i64 kk) ∧ w'.cell? ⟨(ad.add (p1.toNat * 5)).block, (ad.add (p1.toNat * 5)).off + 2, none⟩ = some (.int .i64 km)) (ds := []) #[false, false, false, false, false, false, false, false, false, false, false, false, false, false] (by kernel_rfl) rfl rfl ⟨(((below_drew1 (Below.refl V.heap.size V)).cell (p := ⟨t, 0, none⟩) htlt).trans zt0), (((below_drew1 (Below.refl V.heap.size V)).cell (p := ⟨u, 0, none⟩) hult).trans zu0), (((below_drew1 (Below.refl V.heap.size V)).cell (p := ⟨(ad.add (n1.toNat * 5)).block, (ad.add (n1.toNat * 5)).off + 2, none⟩) (World.block_lt_of_cell? V _ zk)).trans zk), (((below_drew1 (Below.refl V.heap.size V)).cell (p := ⟨(ad.add (p1.toNat * 5)).block, (ad.add (p1.toNat * 5)).off + 2, none⟩) (World.block_lt_of_cell? V _ zm)).trans zm)⟩ (fun hHeld => ?_)
             refine with_tabW move_r.tab12 move_r.bits12 (fun HT_ HW_ => ?_)
             refine pure_ (i := 0) (N := some 96) (v := ?_) (a' := ?_) #[true, false, false, false, false, false, false, false, false, false, false, false, false, false] rfl rfl (any_of HT_.out (by kernel_rfl)) (fun _ _ _ h => h) (Or.inl ⟨by rfl, ?_⟩) ?_ ?_
             rotate_left
             ·intro w'
              go_simp
              with_reducible rfl
             rotate_left
             ·simp only [Act.put, List.setIfInBounds_toArray, List.set_cons_zero, List.set_cons_succ, i64_w, i32_w]
              rfl
             refine pure_ (i := 1) (N := some 97) (v := ?_) (a' := ?_) #[true, true, false, false, false, false, false, false, false, false, false, false, false, false] rfl rfl (any_of HT_.out (by kernel_rfl)) (fun _ _ _ h => h) (Or.inl ⟨by rfl, ?_⟩) ?_ ?_
             rotate_left
             ·intro w'
              go_simp
              with_reducible rfl
             rotate_left
             ·simp only [Act.put, List.setIfInBounds_toArray, List.set_cons_zero, List.set_cons_succ, i64_w, i32_w]
              rfl
             refine pure_ (i := 6) (N := some 102) (v := ?_) (a' := ?_) #[true, true, false, false, false, false, true, false, false, false, false, false, false, false] rfl rfl (any_of HT_.out (by kernel_rfl)) (fun _ _ _ h => h) (Or.inl ⟨by rfl, ?_⟩) ?_ ?_
             rotate_left
             ·intro w'
              go_simp
              with_reducible rfl
             rotate_left
             ·simp only [Act.put, List.setIfInBounds_toArray, List.set_cons_zero, List.set_cons_succ, i64_w, i32_w]
              rfl
             refine pure_ (i := 7) (N := some 103) (v := ?_) (a' := ?_) #[true, true, false, false, false, false, true, true, false, false, false, false, false, false] rfl rfl (any_of HT_.out (by kernel_rfl)) (fun _ _ _ h => h) (Or.inl ⟨by rfl, ?_⟩) ?_ ?_
             rotate_left
             ·intro w'
              go_simp
              with_reducible rfl
             rotate_left
             ·simp only [Act.put, List.setIfInBounds_toArray, List.set_cons_zero, List.set_cons_succ, i64_w, i32_w]
              rfl
             refine take_ (i := 2) (N := some 98) (v := ?_) (a' := ?_) #[true, true, true, false, false, false, true, true, false, false, false, false, false, false] rfl rfl (take_ofW HT_.out HW_.out (by kernel_rfl)) (fun _ _ _ h => h) (Or.inl ⟨by rfl, ?_⟩) hHeld ?_ ?_
             rotate_left
             ·rintro w' ⟨s0, s1, s2, s3⟩
              go_simp
              with_reducible rfl
             rotate_left
             ·simp only [Act.put, List.setIfInBounds_toArray, List.set_cons_zero, List.set_cons_succ, i64_w, i32_w]
              rfl
             refine pure_ (i := 3) (N := some 99) (v := ?_) (a' := ?_) #[true, true, true, true, false, false, true, true, false, false, false, false, false, false] rfl rfl (any_of HT_.out (by kernel_rfl)) (fun _ _ _ h => h) (Or.inl ⟨by rfl, ?_⟩) ?_ ?_
             rotate_left
             ·intro w'
              go_simp
              with_reducible rfl
             rotate_left
             ·simp only [Act.put, List.setIfInBounds_toArray, List.set_cons_zero, List.set_cons_succ, i64_w, i32_w]
              rfl
             refine pure_ (i := 4) (N := some 100) (v := ?_) (a' := ?_) #[true, true, true, true, true, false, true, true, false, false, false, false, false, false] rfl rfl (any_of HT_.out (by kernel_rfl)) (fun _ _ _ h => h) (Or.inl ⟨by rfl, ?_⟩) ?_ ?_
             rotate_left
             ·intro w'
              go_simp
              with_reducible rfl
             rotate_left
             ·simp only [Act.put, List.setIfInBounds_toArray, List.set_cons_zero, List.set_cons_succ, i64_w, i32_w]
              rfl
             refine take_ (i := 5) (N := some 101) (v := ?_) (a' := ?_) #[true, true, true, true, true, true, true, true, false, false, false, false, false, false] rfl rfl (take_ofW HT_.out HW_.out (by kernel_rfl)) (fun _ _ _ h => h) (Or.inl ⟨by rfl, ?_⟩) hHeld ?_ ?_
             rotate_left
             ·rintro w' ⟨s0, s1, s2, s3⟩
              go_simp
              with_reducible rfl
             rotate_left
             ·simp only [Act.put, List.setIfInBounds_toArray, List.set_cons_zero, List.set_cons_succ, i64_w, i32_w]
              rfl
             refine take_ (i := 8) (N := some 104) (v := ?_) (a' := ?_) #[true, true, true, true, true, true, true, true, true, false, false, false, false, false] rfl rfl (take_ofW HT_.out HW_.out (by kernel_rfl)) (fun _ _ _ h => h) (Or.inl ⟨by rfl, ?_⟩) hHeld ?_ ?_
             rotate_left
             ·rintro w' ⟨s0, s1, s2, s3⟩
              go_simp
              with_reducible rfl
             rotate_left
             ·simp only [Act.put, List.setIfInBounds_toArray, List.set_cons_zero, List.set_cons_succ, i64_w, i32_w]
              rfl
             refine pure_ (i := 9) (N := some 105) (v := ?_) (a' := ?_) #[true, true, true, true, true, true, true, true, true, true, false, false, false, false] rfl rfl (any_of HT_.out (by kernel_rfl)) (fun _ _ _ h => h) (Or.inl ⟨by rfl, ?_⟩) ?_ ?_
             rotate_left
             ·intro w'
              go_simp
              with_reducible rfl
             rotate_left
             ·simp only [Act.put, List.setIfInBounds_toArray, List.set_cons_zero, List.set_cons_succ, i64_w, i32_w]
              rfl
             refine pure_ (i := 10) (N := some 106) (v := ?_) (a' := ?_) #[true, true, true, true, true, true, true, true, true, true, true, false, false, false] rfl rfl (any_of HT_.out (by kernel_rfl)) (fun _ _ _ h => h) (Or.inl ⟨by rfl, ?_⟩) ?_ ?_
             rotate_left
             ·intro w'
              go_simp
              with_reducible rfl
             rotate_left
             ·simp only [Act.put, List.setIfInBounds_toArray, List.set_cons_zero, List.set_cons_succ, i64_w, i32_w]
              rfl
             refine take_ (i := 11) (N := some 107) (v := ?_) (a' := ?_) #[true, true, true, true, true, true, true, true, true, true, true, true, false, false] rfl rfl (take_ofW HT_.out HW_.out (by kernel_rfl)) (fun _ _ _ h => h) (Or.inl ⟨by rfl, ?_⟩) hHeld ?_ ?_
             rotate_left
             ·rintro w' ⟨s0, s1, s2, s3⟩
              go_simp
              with_reducible rfl
             rotate_left
             ·simp only [Act.put, List.setIfInBounds_toArray, List.set_cons_zero, List.set_cons_succ, i64_w, i32_w]
              rfl
             refine one_ (i := 12) (N := some 108) #[true, true, true, true, true, true, true, true, true, true, true, true, true, false] rfl rfl (one_of HT_.out (by kernel_rfl)) (by decide) (fun K hK => ?_)
             refine goes_ Try.func44 (by kernel_rfl) rfl #[.int .i64 kk, .int .i64 km] (by rfl) rfl rfl (by simp only [List.map_toArray, List.map_cons, List.map_nil]; rfl) ?_
             with_reducible refine (tree_stands.calls kk km true _ hst.out).mono ?_
             rintro e w9 ⟨rfl, hds⟩
             refine ⟨_, rfl, ?_⟩
             have hb9 : Below V.heap.size V w9 := (below_drew1 (Below.refl _ V)).trans hds.below
             refine hK.out _ _ ⟨((hb9.cell (p := ⟨t, 0, none⟩) htlt).trans zt0), ((hb9.cell (p := ⟨u, 0, none⟩) hult).trans zu0), ((hb9.cell (p := ⟨(ad.add (n1.toNat * 5)).block, (ad.add (n1.toNat * 5)).off + 2, none⟩) (World.block_lt_of_cell? V _ zk)).trans zk), ((hb9.cell (p := ⟨(ad.add (p1.toNat * 5)).block, (ad.add (p1.toNat * 5)).off + 2, none⟩) (World.block_lt_of_cell? V _ zm)).trans zm)⟩ (fun hHeld => ?_)
             clear hK K
             refine norm_ (a' := ?_) ?_ ?_
             rotate_left
             ·show Act.put _ (some 108) _ = _
              simp only [Act.put, List.setIfInBounds_toArray, List.set_cons_zero, List.set_cons_succ, i64_w, i32_w]
              rfl
             refine pure_ (i := 13) (N := some 109) (v := ?_) (a' := ?_) #[true, true, true, true, true, true, true, true, true, true, true, true, true, true] rfl rfl (any_of HT_.out (by kernel_rfl)) (fun _ _ _ h => h) (Or.inl ⟨by rfl, ?_⟩) ?_ ?_
             rotate_left
             ·intro w'
              go_simp
              with_reducible rfl
             rotate_left
             ·simp only [Act.put, List.setIfInBounds_toArray, List.set_cons_zero, List.set_cons_succ, i64_w, i32_w]
              rfl
             refine done_ (done_of HT_.out (by kernel_rfl)) ?_

             have HBn := Aside0.mk (HB.out.trans (hb9.mono HB.out.size))
             have HMn := Aside0.mk (HM.out.below hb9)
             have HNn := Aside0.mk ((hb9.block g (blk_lt HN.out)).trans HN.out)
             have HTn := Aside0.mk ((hb9.block t (blk_lt HT.out)).trans HT.out)
             have HUn := Aside0.mk ((hb9.block u (blk_lt HU.out)).trans HU.out)
             have HSn := Aside0.mk (Kd.R_below HS.out hb9)
             have HGon := Aside0.mk (Kd.R_below HGo.out hb9)
             clear HB HM HN HT HU HS HGo y0 hlt hne
             have HB := HBn
             have HM := HMn
             have HN := HNn
             have HT := HTn
             have HU := HUn
             have HS := HSn
             have HGo := HGon
             clear HBn HMn HNn HTn HUn HSn HGon
             have y0 : w9.cell? ⟨g, 0, none⟩ = some (.int .i64 par) := blk_cell HN.out 0
             have hlt : g < w9.heap.size := blk_lt HN.out
             have hne : g ≠ w9.heap.size := Nat.ne_of_lt hlt
             clear zt0 zu0 zk zm htlt hult hb9 hn1c hn1d hp1c hp1d
             have H2 := HP.out
             unfold moveP at H2
             rw [HD.out] at H2
             simp [Hid.out, Hpar.out, hbz, hidb, Hm0.out, Hm1.out, Hn0.out, Hcf.out, Hbi.out, Hk.out, hsf.out] at H2
             rw [← HSt.out, ← HGn_.out] at H2
             cases hgc : gn with
             | nil => rw [hgc] at H2; simp at H2
             | cons x r =>
              subst hgc
              simp at H2
              obtain ⟨q, hput, hq⟩ := H2
              have HPut := Aside0.mk hput
              clear hput HP
              have hgf := Kd.R_form HGo.out (by simp)
              obtain ⟨go_, cg2, eg, hgb, hgl, _⟩ := hgf
              injection eg with eg1 eg2 eg3
              subst eg1 eg3
              clear eg2
              have hlen1 : (0 : Int) < ((x :: r).length : Int) := by simp <;> omega
              obtain ⟨adx, ex, xx0, xx1, xx2, xx3, xx4⟩ := at_T24 (Kd.R_reads' HGo.out).2.2 0 (by omega) (by simp <;> omega)
              obtain rfl : (⟨go_, 0, none⟩ : Addr) = adx := by injection ex
              clear ex
              have e0 : (⟨go_, 0, none⟩ : Addr).add (Int.toNat 0 * 5) = ⟨go_, 0, none⟩ := rfl
              rw [e0] at xx0 xx1 xx2 xx3 xx4
              clear e0
              have ex0 : rd_T24 (x :: r) 0 = x := rfl
              rw [ex0] at xx0 xx1 xx2 xx3 xx4
              clear ex0
              have hcells : ∀ j v, [.int .i64 x.f0, .int .i64 x.f1, .int .i64 x.f2, .int .i64 x.f3, .string x.f4][j]? = some v → w9.cell? ⟨go_, j, none⟩ = some v := by
               intro j v hj
               match j, hj with
               | 0, hj => obtain rfl := Option.some.inj hj; exact xx0
               | 1, hj => obtain rfl := Option.some.inj hj; exact xx1
               | 2, hj => obtain rfl := Option.some.inj hj; exact xx2
               | 3, hj => obtain rfl := Option.some.inj hj; exact xx3
               | 4, hj => obtain rfl := Option.some.inj hj; exact xx4
               | j + 5, hj => simp at hj
              have HCl := Aside0.mk hcells
              clear hcells xx0 xx2 xx3 xx4
              have hsz3 : (Try.prog.info? 3).map (·.size) = some 1 := by kernel_rfl
              have HSz := Aside0.mk hsz3
              clear hsz3
              go_wp2_with (first | (refine Kd.R_store k24 (w0 := w) w.heap.size rfl rfl 3 (.tmp 113) (.tmp 111) rfl 24 (g := go_) (n := (x :: r).length) (cap := cg) (o' := 1) 0 1 (x :: r) (reparent x par) (.int .i64 par) [.int .i64 par] [.int .i64 x.f0, .int .i64 x.f1, .int .i64 x.f2, .int .i64 x.f3, .string x.f4] _ (fun _ => False) rfl rfl rfl rfl HSz.out (by simp [Value.oneCell']) HGo.out (by omega) hlen1 rfl (fun j v hj => by have h_ := HCl.out j v hj; simpa using h_) (show 1 + 1 ≤ 5 by omega) (k24_mkM _ _ _ (reparent x par)) (fun _ hk => hk.elim) HB.out ?_; intro w10 hG10 hB10 hg10))
              have HGo2 := Aside0.mk hG10
              have HS2 := Aside0.mk (Kd.R_grown1 HS.out rfl hg10 (fun e_ => HGo.out.1 go_ rfl (by rw [← e_])))
              have HB2 := Aside0.mk hB10
              clear hG10 hB10 hg10
              go_wp2_with (first | (go_at_call 45; (refine (put_calls As cs st _ cg (reparent x par :: r) _ q w10 (Kd.R_reads' HS2.out).2.2 (Kd.R_reads' HS2.out).2.1 (Kd.R_reads' HGo2.out).2.2 (Kd.R_reads' HGo2.out).2.1 (by have := HL.out; have := Hlen.out; simp at this ⊢; omega) HPut.out).mono ?_); rintro e w11 ⟨v11, rfl, hR11, hb11⟩; obtain ⟨A11, c11, rfl⟩ := Kd.R_slice hR11; have HB11 := Aside0.mk (HB2.out.trans (hb11.mono HB2.out.size)); have HR11 := Aside0.mk (Kd.R_lower hR11 HB2.out.size); clear hR11 hb11))
              cases hvq : (placesP q).isSome with
              | true =>
               have hv : tree_Valid.f q = some true := by unfold tree_Valid.f; rw [hvq]
               have HV := Aside0.mk hv
               rw [hvq] at hq
               simp at hq
               obtain ⟨rfl, rfl⟩ := hq
               clear hv hvq
               go_wp2_with (first | (go_at_call 13; (with_reducible refine (tree_Valid.calls A11 c11 q true _ (Kd.R_reads' HR11.out).2.2 (Kd.R_reads' HR11.out).2.1 HV.out).mono ?_); rintro e w12 ⟨rfl, hb12⟩))
               go_ret2
               exact ⟨_, rfl, Kd.R_below HR11.out hb12, HB11.out.trans (hb12.mono HB11.out.size)⟩
              | false =>
               have hv : tree_Valid.f q = some false := by unfold tree_Valid.f; rw [hvq]
               have HV := Aside0.mk hv
               rw [hvq] at hq
               simp at hq
               obtain ⟨rfl, rfl⟩ := hq
               clear hv hvq
               go_wp2_with (first | (go_at_call 13; (with_reducible refine (tree_Valid.calls A11 c11 q false _ (Kd.R_reads' HR11.out).2.2 (Kd.R_reads' HR11.out).2.1 HV.out).mono ?_); rintro e w12 ⟨rfl, hb12⟩))
               go_ret2
               exact ⟨_, rfl, Kd.R_nil _ _ _ _ _, HB11.out.trans (hb12.mono HB11.out.size)⟩
            ·have hst : Aside0 (tree_stands.f kk km = some false) := ⟨by rw [stands_f]; simpa using hs⟩
             have hsf : Aside0 (standsB (rd_T24 l0 n1).f2 (rd_T24 l0 p1).f2 = false) := ⟨by rw [← Hkk.out, ← Hkm.out]; simpa using hs⟩
             clear hs
             have H2 := HP.out
             unfold moveP at H2
             rw [HD.out] at H2
             simp [Hid.out, Hpar.out, hbz, hidb, Hm0.out, Hm1.out, Hn0.out, Hcf.out, Hbi.out, Hk.out, hsf.out] at H2
             obtain ⟨rfl, rfl⟩ := H2
             clear HP
             refine start_ (n := 14) (S := fun w' => w'.cell? ⟨t, 0, none⟩ = some (.int .i64 n1) ∧ w'.cell? ⟨u, 0, none⟩ = some (.int .i64 p1) ∧ w'.cell? ⟨(ad.add (n1.toNat * 5)).block, (ad.add (n1.toNat * 5)).off + 2, none⟩ = some (.int .i64 kk) ∧ w'.cell? ⟨(ad.add (p1.toNat * 5)).block, (ad.add (p1.toNat * 5)).off + 2, none⟩ = some (.int .i64 km)) (ds := []) #[false, false, false, false, false, false, false, false, false, false, false, false, false, false] (by kernel_rfl) rfl rfl ⟨(((below_drew1 (Below.refl V.heap.size V)).cell (p := ⟨t, 0, none⟩) htlt).trans zt0), (((below_drew1 (Below.refl V.heap.size V)).cell (p := ⟨u, 0, none⟩) hult).trans zu0), (((below_drew1 (Below.refl V.heap.size V)).cell (p := ⟨(ad.add (n1.toNat * 5)).block, (ad.add (n1.toNat * 5)).off + 2, none⟩) (World.block_lt_of_cell? V _ zk)).trans zk), (((below_drew1 (Below.refl V.heap.size V)).cell (p := ⟨(ad.add (p1.toNat * 5)).block, (ad.add (p1.toNat * 5)).off + 2, none⟩) (World.block_lt_of_cell? V _ zm)).trans zm)⟩ (fun hHeld => ?_)
             refine with_tabW move_r.tab12 move_r.bits12 (fun HT_ HW_ => ?_)
             refine pure_ (i := 0) (N := some 96) (v := ?_) (a' := ?_) #[true, false, false, false, false, false, false, false, false, false, false, false, false, false] rfl rfl (any_of HT_.out (by kernel_rfl)) (fun _ _ _ h => h) (Or.inl ⟨by rfl, ?_⟩) ?_ ?_
             rotate_left
             ·intro w'
              go_simp
              with_reducible rfl
             rotate_left
             ·simp only [Act.put, List.setIfInBounds_toArray, List.set_cons_zero, List.set_cons_succ, i64_w, i32_w]
              rfl
             refine pure_ (i := 1) (N := some 97) (v := ?_) (a' := ?_) #[true, true, false, false, false, false, false, false, false, false, false, false, false, false] rfl rfl (any_of HT_.out (by kernel_rfl)) (fun _ _ _ h => h) (Or.inl ⟨by rfl, ?_⟩) ?_ ?_
             rotate_left
             ·intro w'
              go_simp
              with_reducible rfl
             rotate_left
             ·simp only [Act.put, List.setIfInBounds_toArray, List.set_cons_zero, List.set_cons_succ, i64_w, i32_w]
              rfl
             refine pure_ (i := 6) (N := some 102) (v := ?_) (a' := ?_) #[true, true, false, false, false, false, true, false, false, false, false, false, false, false] rfl rfl (any_of HT_.out (by kernel_rfl)) (fun _ _ _ h => h) (Or.inl ⟨by rfl, ?_⟩) ?_ ?_
             rotate_left
             ·intro w'
              go_simp
              with_reducible rfl
             rotate_left
             ·simp only [Act.put, List.setIfInBounds_toArray, List.set_cons_zero, List.set_cons_succ, i64_w, i32_w]
              rfl
             refine pure_ (i := 7) (N := some 103) (v := ?_) (a' := ?_) #[true, true, false, false, false, false, true, true, false, false, false, false, false, false] rfl rfl (any_of HT_.out (by kernel_rfl)) (fun _ _ _ h => h) (Or.inl ⟨by rfl, ?_⟩) ?_ ?_
             rotate_left
             ·intro w'
              go_simp
              with_reducible rfl
             rotate_left
             ·simp only [Act.put, List.setIfInBounds_toArray, List.set_cons_zero, List.set_cons_succ, i64_w, i32_w]
              rfl
             refine take_ (i := 2) (N := some 98) (v := ?_) (a' := ?_) #[true, true, true, false, false, false, true, true, false, false, false, false, false, false] rfl rfl (take_ofW HT_.out HW_.out (by kernel_rfl)) (fun _ _ _ h => h) (Or.inl ⟨by rfl, ?_⟩) hHeld ?_ ?_
             rotate_left
             ·rintro w' ⟨s0, s1, s2, s3⟩
              go_simp
              with_reducible rfl
             rotate_left
             ·simp only [Act.put, List.setIfInBounds_toArray, List.set_cons_zero, List.set_cons_succ, i64_w, i32_w]
              rfl
             refine pure_ (i := 3) (N := some 99) (v := ?_) (a' := ?_) #[true, true, true, true, false, false, true, true, false, false, false, false, false, false] rfl rfl (any_of HT_.out (by kernel_rfl)) (fun _ _ _ h => h) (Or.inl ⟨by rfl, ?_⟩) ?_ ?_
             rotate_left
             ·intro w'
              go_simp
              with_reducible rfl
             rotate_left
             ·simp only [Act.put, List.setIfInBounds_toArray, List.set_cons_zero, List.set_cons_succ, i64_w, i32_w]
              rfl
             refine pure_ (i := 4) (N := some 100) (v := ?_) (a' := ?_) #[true, true, true, true, true, false, true, true, false, false, false, false, false, false] rfl rfl (any_of HT_.out (by kernel_rfl)) (fun _ _ _ h => h) (Or.inl ⟨by rfl, ?_⟩) ?_ ?_
             rotate_left
             ·intro w'
              go_simp
              with_reducible rfl
             rotate_left
             ·simp only [Act.put, List.setIfInBounds_toArray, List.set_cons_zero, List.set_cons_succ, i64_w, i32_w]
              rfl
             refine take_ (i := 5) (N := some 101) (v := ?_) (a' := ?_) #[true, true, true, true, true, true, true, true, false, false, false, false, false, false] rfl rfl (take_ofW HT_.out HW_.out (by kernel_rfl)) (fun _ _ _ h => h) (Or.inl ⟨by rfl, ?_⟩) hHeld ?_ ?_
             rotate_left
             ·rintro w' ⟨s0, s1, s2, s3⟩
              go_simp
              with_reducible rfl
             rotate_left
             ·simp only [Act.put, List.setIfInBounds_toArray, List.set_cons_zero, List.set_cons_succ, i64_w, i32_w]
              rfl
             refine take_ (i := 8) (N := some 104) (v := ?_) (a' := ?_) #[true, true, true, true, true, true, true, true, true, false, false, false, false, false] rfl rfl (take_ofW HT_.out HW_.out (by kernel_rfl)) (fun _ _ _ h => h) (Or.inl ⟨by rfl, ?_⟩) hHeld ?_ ?_
             rotate_left
             ·rintro w' ⟨s0, s1, s2, s3⟩
              go_simp
              with_reducible rfl
             rotate_left
             ·simp only [Act.put, List.setIfInBounds_toArray, List.set_cons_zero, List.set_cons_succ, i64_w, i32_w]
              rfl
             refine pure_ (i := 9) (N := some 105) (v := ?_) (a' := ?_) #[true, true, true, true, true, true, true, true, true, true, false, false, false, false] rfl rfl (any_of HT_.out (by kernel_rfl)) (fun _ _ _ h => h) (Or.inl ⟨by rfl, ?_⟩) ?_ ?_
             rotate_left
             ·intro w'
              go_simp
              with_reducible rfl
             rotate_left
             ·simp only [Act.put, List.setIfInBounds_toArray, List.set_cons_zero, List.set_cons_succ, i64_w, i32_w]
              rfl
             refine pure_ (i := 10) (N := some 106) (v := ?_) (a' := ?_) #[true, true, true, true, true, true, true, true, true, true, true, false, false, false] rfl rfl (any_of HT_.out (by kernel_rfl)) (fun _ _ _ h => h) (Or.inl ⟨by rfl, ?_⟩) ?_ ?_
             rotate_left
             ·intro w'
              go_simp
              with_reducible rfl
             rotate_left
             ·simp only [Act.put, List.setIfInBounds_toArray, List.set_cons_zero, List.set_cons_succ, i64_w, i32_w]
              rfl
             refine take_ (i := 11) (N := some 107) (v := ?_) (a' := ?_) #[true, true, true, true, true, true, true, true, true, true, true, true, false, false] rfl rfl (take_ofW HT_.out HW_.out (by kernel_rfl)) (fun _ _ _ h => h) (Or.inl ⟨by rfl, ?_⟩) hHeld ?_ ?_
             rotate_left
             ·rintro w' ⟨s0, s1, s2, s3⟩
              go_simp
              with_reducible rfl
             rotate_left
             ·simp only [Act.put, List.setIfInBounds_toArray, List.set_cons_zero, List.set_cons_succ, i64_w, i32_w]
              rfl
             refine one_ (i := 12) (N := some 108) #[true, true, true, true, true, true, true, true, true, true, true, true, true, false] rfl rfl (one_of HT_.out (by kernel_rfl)) (by decide) (fun K hK => ?_)
             refine goes_ Try.func44 (by kernel_rfl) rfl #[.int .i64 kk, .int .i64 km] (by rfl) rfl rfl (by simp only [List.map_toArray, List.map_cons, List.map_nil]; rfl) ?_
             with_reducible refine (tree_stands.calls kk km false _ hst.out).mono ?_
             rintro e w9 ⟨rfl, hds⟩
             refine ⟨_, rfl, ?_⟩
             have hb9 : Below V.heap.size V w9 := (below_drew1 (Below.refl _ V)).trans hds.below
             refine hK.out _ _ ⟨((hb9.cell (p := ⟨t, 0, none⟩) htlt).trans zt0), ((hb9.cell (p := ⟨u, 0, none⟩) hult).trans zu0), ((hb9.cell (p := ⟨(ad.add (n1.toNat * 5)).block, (ad.add (n1.toNat * 5)).off + 2, none⟩) (World.block_lt_of_cell? V _ zk)).trans zk), ((hb9.cell (p := ⟨(ad.add (p1.toNat * 5)).block, (ad.add (p1.toNat * 5)).off + 2, none⟩) (World.block_lt_of_cell? V _ zm)).trans zm)⟩ (fun hHeld => ?_)
             clear hK K
             refine norm_ (a' := ?_) ?_ ?_
             rotate_left
             ·show Act.put _ (some 108) _ = _
              simp only [Act.put, List.setIfInBounds_toArray, List.set_cons_zero, List.set_cons_succ, i64_w, i32_w]
              rfl
             refine pure_ (i := 13) (N := some 109) (v := ?_) (a' := ?_) #[true, true, true, true, true, true, true, true, true, true, true, true, true, true] rfl rfl (any_of HT_.out (by kernel_rfl)) (fun _ _ _ h => h) (Or.inl ⟨by rfl, ?_⟩) ?_ ?_
             rotate_left
             ·intro w'
              go_simp
              with_reducible rfl
             rotate_left
             ·simp only [Act.put, List.setIfInBounds_toArray, List.set_cons_zero, List.set_cons_succ, i64_w, i32_w]
              rfl
             refine done_ (done_of HT_.out (by kernel_rfl)) ?_

             have HBn := Aside0.mk (HB.out.trans (hb9.mono HB.out.size))
             have HMn := Aside0.mk (HM.out.below hb9)
             have HNn := Aside0.mk ((hb9.block g (blk_lt HN.out)).trans HN.out)
             have HTn := Aside0.mk ((hb9.block t (blk_lt HT.out)).trans HT.out)
             have HUn := Aside0.mk ((hb9.block u (blk_lt HU.out)).trans HU.out)
             have HSn := Aside0.mk (Kd.R_below HS.out hb9)
             have HGon := Aside0.mk (Kd.R_below HGo.out hb9)
             clear HB HM HN HT HU HS HGo y0 hlt hne
             have HB := HBn
             have HM := HMn
             have HN := HNn
             have HT := HTn
             have HU := HUn
             have HS := HSn
             have HGo := HGon
             clear HBn HMn HNn HTn HUn HSn HGon
             have y0 : w9.cell? ⟨g, 0, none⟩ = some (.int .i64 par) := blk_cell HN.out 0
             have hlt : g < w9.heap.size := blk_lt HN.out
             have hne : g ≠ w9.heap.size := Nat.ne_of_lt hlt
             clear zt0 zu0 zk zm htlt hult hb9
             go_wp2
             go_ret2
             exact ⟨_, rfl, Kd.R_nil _ _ _ _ _, HB.out⟩
           ·have hin : Aside0 (slices_Contains_int_int.f 4001 (kidsL l0 par) b = some false) := ⟨by rw [contains_f _ _ (Nat.le_trans (kidsL_len _ _) HL.out)]; simpa using hk⟩
            have H2 := HP.out
            unfold moveP at H2
            rw [HD.out] at H2
            simp [Hid.out, Hpar.out, hbz, hidb, Hm0.out, Hm1.out, Hn0.out, Hcf.out, Hbi.out, hk] at H2
            obtain ⟨rfl, rfl⟩ := H2
            clear hk HP
            go_wp2_with (first | (go_at_call 50; (with_reducible refine (containsFunc_calls Ag cg gn g par _ (Kd.R_reads' HGo.out).2.2 (Kd.R_reads' HGo.out).2.1 HN.out false hcf.out).mono ?_); rintro e w6 ⟨rfl, hb6⟩; have HBn := Aside0.mk (HB.out.trans (hb6.mono HB.out.size)); have HMn := Aside0.mk (HM.out.below hb6); have HNn := Aside0.mk ((hb6.block g (blk_lt HN.out)).trans HN.out); have HTn := Aside0.mk ((hb6.block t (blk_lt HT.out)).trans HT.out); have HUn := Aside0.mk ((hb6.block u (blk_lt HU.out)).trans HU.out); have HSn := Aside0.mk (Kd.R_below HS.out hb6); have HGon := Aside0.mk (Kd.R_below HGo.out hb6); clear HB HM HN HT HU HS HGo y0 hlt hne; have HB := HBn; have HM := HMn; have HN := HNn; have HT := HTn; have HU := HUn; have HS := HSn; have HGo := HGon; clear HBn HMn HNn HTn HUn HSn HGon; have y0 : w6.cell? ⟨g, 0, none⟩ = some (.int .i64 par) := blk_cell HN.out 0; have hlt : g < w6.heap.size := blk_lt HN.out; have hne : g ≠ w6.heap.size := Nat.ne_of_lt hlt; clear hb6; have zt0 : w6.cell? ⟨t, 0, none⟩ = some (.int .i64 n1) := blk_cell HT.out 0) | (go_at_call 38; (with_reducible refine (tree_kids.calls 4001 _ c0 l0 par (kidsL l0 par) _ (Kd.C_below HR.out HB.out) HC0.out (kids_f _ _ HL.out)).mono ?_); rintro e w7 ⟨v7, rfl, hR7, hb7⟩; obtain ⟨A7, c7, rfl⟩ := Kd.R_slice hR7; have HK := Aside0.mk (Kd.R_reads' hR7); clear hR7; have HBn := Aside0.mk (HB.out.trans (hb7.mono HB.out.size)); have HMn := Aside0.mk (HM.out.below hb7); have HNn := Aside0.mk ((hb7.block g (blk_lt HN.out)).trans HN.out); have HTn := Aside0.mk ((hb7.block t (blk_lt HT.out)).trans HT.out); have HUn := Aside0.mk ((hb7.block u (blk_lt HU.out)).trans HU.out); have HSn := Aside0.mk (Kd.R_below HS.out hb7); have HGon := Aside0.mk (Kd.R_below HGo.out hb7); clear HB HM HN HT HU HS HGo y0 hlt hne; have HB := HBn; have HM := HMn; have HN := HNn; have HT := HTn; have HU := HUn; have HS := HSn; have HGo := HGon; clear HBn HMn HNn HTn HUn HSn HGon; have y0 : w7.cell? ⟨g, 0, none⟩ = some (.int .i64 par) := blk_cell HN.out 0; have hlt : g < w7.heap.size := blk_lt HN.out; have hne : g ≠ w7.heap.size := Nat.ne_of_lt hlt; clear hb7) | (go_at_call 43; (with_reducible refine (slices_Contains_int_int.calls 4001 A7 c7 (kidsL l0 par) b false _ HK.out.2.2 HK.out.2.1 hin.out).mono ?_); rintro e w8 ⟨rfl, hd⟩; have HBn := Aside0.mk (HB.out.trans (hd.below.mono HB.out.size)); have HMn := Aside0.mk (HM.out.below hd.below); have HNn := Aside0.mk ((hd.below.block g (blk_lt HN.out)).trans HN.out); have HTn := Aside0.mk ((hd.below.block t (blk_lt HT.out)).trans HT.out); have HUn := Aside0.mk ((hd.below.block u (blk_lt HU.out)).trans HU.out); have HSn := Aside0.mk (Kd.R_below HS.out hd.below); have HGon := Aside0.mk (Kd.R_below HGo.out hd.below); clear HB HM HN HT HU HS HGo y0 hlt hne; have HB := HBn; have HM := HMn; have HN := HNn; have HT := HTn; have HU := HUn; have HS := HSn; have HGo := HGon; clear HBn HMn HNn HTn HUn HSn HGon; have y0 : w8.cell? ⟨g, 0, none⟩ = some (.int .i64 par) := blk_cell HN.out 0; have hlt : g < w8.heap.size := blk_lt HN.out; have hne : g ≠ w8.heap.size := Nat.ne_of_lt hlt; clear hd))
            go_ret2
            exact ⟨_, rfl, Kd.R_nil _ _ _ _ _, HB.out⟩
     ·have hbid : Aside0 (tree_isID.f b = some false) := ⟨by rw [idB_f]; simpa using hidb⟩
      have H2 := HP.out
      unfold moveP at H2
      rw [HD.out] at H2
      simp [Hid.out, Hpar.out, hbz, hidb] at H2
      obtain ⟨rfl, rfl⟩ := H2
      clear HP hidb hbz
      go_wp2_with (first | (go_at_call_of 32 (Value.int .i64 id); (with_reducible refine (tree_isID.calls id true _ hid.out).mono ?_); rintro e w2 ⟨rfl, hd⟩; have HBn := Aside0.mk (HB.out.trans (hd.below.mono HB.out.size)); have HMn := Aside0.mk (HM.out.below hd.below); have HNn := Aside0.mk ((hd.below.block g (blk_lt HN.out)).trans HN.out); clear HB HM HN y0 hlt hne; have HB := HBn; have HM := HMn; have HN := HNn; clear HBn HMn HNn; have y0 : w2.cell? ⟨g, 0, none⟩ = some (.int .i64 par) := blk_cell HN.out 0; have hlt : g < w2.heap.size := blk_lt HN.out; have hne : g ≠ w2.heap.size := Nat.ne_of_lt hlt; clear hd) | (go_at_call_of 32 (Value.int .i64 par); (with_reducible refine (tree_isID.calls par true _ hpar.out).mono ?_); rintro e w2 ⟨rfl, hd⟩; have HBn := Aside0.mk (HB.out.trans (hd.below.mono HB.out.size)); have HMn := Aside0.mk (HM.out.below hd.below); have HNn := Aside0.mk ((hd.below.block g (blk_lt HN.out)).trans HN.out); clear HB HM HN y0 hlt hne; have HB := HBn; have HM := HMn; have HN := HNn; clear HBn HMn HNn; have y0 : w2.cell? ⟨g, 0, none⟩ = some (.int .i64 par) := blk_cell HN.out 0; have hlt : g < w2.heap.size := blk_lt HN.out; have hne : g ≠ w2.heap.size := Nat.ne_of_lt hlt; clear hd) | (go_at_call_of 32 (Value.int .i64 b); (with_reducible refine (tree_isID.calls b false _ hbid.out).mono ?_); rintro e w2 ⟨rfl, hd⟩; have HBn := Aside0.mk (HB.out.trans (hd.below.mono HB.out.size)); have HMn := Aside0.mk (HM.out.below hd.below); have HNn := Aside0.mk ((hd.below.block g (blk_lt HN.out)).trans HN.out); clear HB HM HN y0 hlt hne; have HB := HBn; have HM := HMn; have HN := HNn; clear HBn HMn HNn; have y0 : w2.cell? ⟨g, 0, none⟩ = some (.int .i64 par) := blk_cell HN.out 0; have hlt : g < w2.heap.size := blk_lt HN.out; have hne : g ≠ w2.heap.size := Nat.ne_of_lt hlt; clear hd))
      go_ret2
      exact ⟨_, rfl, Kd.R_nil _ _ _ _ _, HB.out⟩
   ·have hpar : Aside0 (tree_isID.f par = some false) := ⟨by rw [idB_f]; simpa using hpar_⟩
    have H2 := HP.out
    unfold moveP at H2
    rw [HD.out] at H2
    simp [Hid.out, hpar_] at H2
    obtain ⟨rfl, rfl⟩ := H2
    clear HP hpar_
    go_wp2_with (first | (go_at_call_of 32 (Value.int .i64 id); (with_reducible refine (tree_isID.calls id true _ hid.out).mono ?_); rintro e w2 ⟨rfl, hd⟩; have HBn := Aside0.mk (HB.out.trans (hd.below.mono HB.out.size)); have HMn := Aside0.mk (HM.out.below hd.below); have HNn := Aside0.mk ((hd.below.block g (blk_lt HN.out)).trans HN.out); clear HB HM HN y0 hlt hne; have HB := HBn; have HM := HMn; have HN := HNn; clear HBn HMn HNn; have y0 : w2.cell? ⟨g, 0, none⟩ = some (.int .i64 par) := blk_cell HN.out 0; have hlt : g < w2.heap.size := blk_lt HN.out; have hne : g ≠ w2.heap.size := Nat.ne_of_lt hlt; clear hd) | (go_at_call_of 32 (Value.int .i64 par); (with_reducible refine (tree_isID.calls par false _ hpar.out).mono ?_); rintro e w2 ⟨rfl, hd⟩; have HBn := Aside0.mk (HB.out.trans (hd.below.mono HB.out.size)); have HMn := Aside0.mk (HM.out.below hd.below); have HNn := Aside0.mk ((hd.below.block g (blk_lt HN.out)).trans HN.out); clear HB HM HN y0 hlt hne; have HB := HBn; have HM := HMn; have HN := HNn; clear HBn HMn HNn; have y0 : w2.cell? ⟨g, 0, none⟩ = some (.int .i64 par) := blk_cell HN.out 0; have hlt : g < w2.heap.size := blk_lt HN.out; have hne : g ≠ w2.heap.size := Nat.ne_of_lt hlt; clear hd))
    go_ret2
    exact ⟨_, rfl, Kd.R_nil _ _ _ _ _, HB.out⟩
  ·have hid : Aside0 (tree_isID.f id = some false) := ⟨by rw [idB_f]; simpa using hid_⟩
   have H2 := HP.out
   unfold moveP at H2
   rw [HD.out] at H2
   simp [hid_] at H2
   obtain ⟨rfl, rfl⟩ := H2
   clear HP hid_
   go_wp2_with (first | (go_at_call_of 32 (Value.int .i64 id); (with_reducible refine (tree_isID.calls id false _ hid.out).mono ?_); rintro e w2 ⟨rfl, hd⟩; have HBn := Aside0.mk (HB.out.trans (hd.below.mono HB.out.size)); have HMn := Aside0.mk (HM.out.below hd.below); have HNn := Aside0.mk ((hd.below.block g (blk_lt HN.out)).trans HN.out); clear HB HM HN y0 hlt hne; have HB := HBn; have HM := HMn; have HN := HNn; clear HBn HMn HNn; have y0 : w2.cell? ⟨g, 0, none⟩ = some (.int .i64 par) := blk_cell HN.out 0; have hlt : g < w2.heap.size := blk_lt HN.out; have hne : g ≠ w2.heap.size := Nat.ne_of_lt hlt; clear hd))
   go_ret2
   exact ⟨_, rfl, Kd.R_nil _ _ _ _ _, HB.out⟩
def tree_Move.f (l0 : List S24) (a1 a2 a3 : Int) : Option (List S24 × Int) := moveP l0 a1 a2 a3
theorem tree_Move.calls (A0 : Option Addr) (c0 : Nat) (l0 : List (S24)) (a1 : Int) (a2 : Int) (a3 : Int) (r1 : List (S24)) (r2 : Int) (w : World) (hr0 : Kd.C k24 w A0 l0.length l0) (hc0 : l0.length ≤ c0) (h : tree_Move.f l0 a1 a2 a3 = some (r1, r2)) :
  Calls Try.prog 25 #[.slice A0 l0.length c0, .int .i64 a1, .int .i64 a2, .int .i64 a3] w fun e w' => ∃ v0_ : Value, e = .returned (.tuple #[v0_, .int .i64 r2]) ∧ Kd.R k24 24 w' w.heap.size (fun _ => True) v0_ r1 ∧ Below w.heap.size w w' :=
 move_calls A0 c0 l0 a1 a2 a3 r1 r2 w hr0 hc0 h
end Go.Proofs.Ytpafhhgoldenoaa.P
end

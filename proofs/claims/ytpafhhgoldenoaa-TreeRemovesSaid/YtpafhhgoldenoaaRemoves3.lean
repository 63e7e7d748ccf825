import Derived.Test.YtpafhhgoldenoaaRemoves2
import Derived.Lib.Hide
import Derived.WalkMore
/- Laws that the proof of Removes uses. -/
section
namespace Go.Proofs.Ytpafhhgoldenoaa.P
open Go.RowKit Go.Proofs.YtpafhhgoldenoaaW.PrintWords Go.Proofs.YtpafhhgoldenoaaW.PrintLast Go.Proofs.YtpafhhgoldenoaaW.PrintMore
attribute [local go_sem] max2_int min2_int max_two min_two max_three min_three max_four min_four
set_option linter.unusedVariables false
set_option linter.unusedSimpArgs false
mutual
def formeref06_Class.j0 : Nat → Int → Bool → Option (Int)
 | 0, _, _ => none
 | k + 1, x0, x8 => if x8 = true then (some 1) else (if x0 ≥ 65 then (formeref06_Class.j1 k x0 (decide (x0 ≤ 90))) else (formeref06_Class.j1 k x0 false))
def formeref06_Class.j1 : Nat → Int → Bool → Option (Int)
 | 0, _, _ => none
 | k + 1, x0, x14 => if x14 = true then (some 2) else (if x0 ≥ 48 then (formeref06_Class.j2 k x0 (decide (x0 ≤ 57))) else (formeref06_Class.j2 k x0 false))
def formeref06_Class.j2 : Nat → Int → Bool → Option (Int)
 | 0, _, _ => none
 | k + 1, x0, x20 => if x20 = true then (some 3) else (if x0 = 32 then (some 4) else (if x0 = 126 then (some 6) else (if x0 > 32 then (if x0 < 126 then (some 5) else (some 0)) else (some 0))))
end
def formeref06_Class.f (k : Nat) (a0 : Int) : Option (Int) := if a0 ≥ 97 then (formeref06_Class.j0 k a0 (decide (a0 ≤ 122))) else (formeref06_Class.j0 k a0 false)
theorem formeref06_Class.mono_l : ∀ k, (∀ y0 y1, LeO (formeref06_Class.j0 k y0 y1) (formeref06_Class.j0 (k + 1) y0 y1)) ∧ (∀ y0 y1, LeO (formeref06_Class.j1 k y0 y1) (formeref06_Class.j1 (k + 1) y0 y1)) ∧ (∀ y0 y1, LeO (formeref06_Class.j2 k y0 y1) (formeref06_Class.j2 (k + 1) y0 y1))
 | 0 => ⟨fun _ _ r h => by simp [formeref06_Class.j0] at h, fun _ _ r h => by simp [formeref06_Class.j1] at h, fun _ _ r h => by simp [formeref06_Class.j2] at h⟩
 | k + 1 => by
  obtain ⟨ih0, ih1, ih2⟩ := formeref06_Class.mono_l k
  refine ⟨?_, ?_, ?_⟩
  ·intro y0 y1
   unfold formeref06_Class.j0
   repeat' first
   | (with_reducible exact ih0 _ _)
   | (with_reducible exact ih1 _ _)
   | (with_reducible exact ih2 _ _)
   | (with_reducible exact LeO.refl _)
   | (with_reducible exact LeO.none _)
   | (with_reducible refine LeO.ite ?_ ?_)
   | (with_reducible refine LeO.bind ?_ (fun _ => ?_))
   | exact ih0 _ _
   | exact ih1 _ _
   | exact ih2 _ _
   | exact LeO.none _
   | refine LeO.ite ?_ ?_
   | refine LeO.bind ?_ (fun _ => ?_)
  ·intro y0 y1
   unfold formeref06_Class.j1
   repeat' first
   | (with_reducible exact ih0 _ _)
   | (with_reducible exact ih1 _ _)
   | (with_reducible exact ih2 _ _)
   | (with_reducible exact LeO.refl _)
   | (with_reducible exact LeO.none _)
   | (with_reducible refine LeO.ite ?_ ?_)
   | (with_reducible refine LeO.bind ?_ (fun _ => ?_))
   | exact ih0 _ _
   | exact ih1 _ _
   | exact ih2 _ _
   | exact LeO.none _
   | refine LeO.ite ?_ ?_
   | refine LeO.bind ?_ (fun _ => ?_)
  ·intro y0 y1
   unfold formeref06_Class.j2
   repeat' first
   | (with_reducible exact ih0 _ _)
   | (with_reducible exact ih1 _ _)
   | (with_reducible exact ih2 _ _)
   | (with_reducible exact LeO.refl _)
   | (with_reducible exact LeO.none _)
   | (with_reducible refine LeO.ite ?_ ?_)
   | (with_reducible refine LeO.bind ?_ (fun _ => ?_))
   | exact ih0 _ _
   | exact ih1 _ _
   | exact ih2 _ _
   | exact LeO.none _
   | refine LeO.ite ?_ ?_
   | refine LeO.bind ?_ (fun _ => ?_)
theorem formeref06_Class.mono : ∀ a0 k, LeO (formeref06_Class.f k a0) (formeref06_Class.f (k + 1) a0) := by
 intro a0 k
 obtain ⟨ih0, ih1, ih2⟩ := formeref06_Class.mono_l k
 unfold formeref06_Class.f
 repeat' first
   | (with_reducible exact ih0 _ _)
   | (with_reducible exact ih1 _ _)
   | (with_reducible exact ih2 _ _)
   | (with_reducible exact LeO.refl _)
   | (with_reducible exact LeO.none _)
   | (with_reducible refine LeO.ite ?_ ?_)
   | (with_reducible refine LeO.bind ?_ (fun _ => ?_))
   | exact ih0 _ _
   | exact ih1 _ _
   | exact ih2 _ _
   | exact LeO.none _
   | refine LeO.ite ?_ ?_
   | refine LeO.bind ?_ (fun _ => ?_)
set_option maxHeartbeats 8000000 in
set_option maxRecDepth 100000 in
theorem formeref06_Class.calls (k : Nat) (a0 : Int) (r : Int) (w : World) (h : formeref06_Class.f k a0 = some r) :
  Calls Try.prog 61 #[.int .u8 a0] w fun e w' => e = .returned (.int .i64 r) ∧ Drawn0 w w' := by
 have H : (if a0 ≥ 97 then (formeref06_Class.j0 k a0 (decide (a0 ≤ 122))) else (formeref06_Class.j0 k a0 false)) = some r := h
 clear h
 have HC2 := Aside0.mk H
 clear H
 go_enter Try.func61, Try.ntmps61
 go_upto_region 1 with (fail)
 go_cut [8] (fun v8 wc => ∃ (kq : Nat) (x8_1 : Bool), v8 = .bool x8_1 ∧ Aside0 (formeref06_Class.j0 kq a0 x8_1 = some r) ∧ Aside0 (kq ≤ k) ∧ Drawn0 w wc)
 case first =>
  have H := HC2.out
  clear HC2
  by_cases c3 : a0 ≥ 97
  ·rw [if_pos c3] at H
   have c3b0 : decide (97 ≤ a0) = true := decide_eq_true c3
   clear c3
   (first | rw [c3b0] | (simp only [i64_w, i32_w]; rw [c3b0]) | skip)
   have H' := Aside0.mk H
   clear H
   go_wp2
   go_meet
   case rel => exact ⟨_, (decide (a0 ≤ 122)), (by first | rfl | (simp; done) | (simp [*]; done)), H', ⟨by first | omega | exact Nat.le_refl _⟩, by repeat (first | exact Drawn0.refl _ | apply Drawn0.step)⟩
  ·rw [if_neg c3] at H
   have c3b0 : decide (97 ≤ a0) = false := decide_eq_false c3
   clear c3
   (first | rw [c3b0] | (simp only [i64_w, i32_w]; rw [c3b0]) | skip)
   have H' := Aside0.mk H
   clear H
   go_wp2
   go_meet
   case rel => exact ⟨_, (false), (by first | rfl | (simp; done) | (simp [*]; done)), H', ⟨by first | omega | exact Nat.le_refl _⟩, by repeat (first | exact Drawn0.refl _ | apply Drawn0.step)⟩
 case rest =>
  clear HC2
  try clear p2
  try clear c3
  try clear c3b0
  obtain ⟨kq, x8_1, rfl, HA, HJ1, ⟨mc1, rfl⟩⟩ := hcut
  cases kq with
  | zero => exact absurd HA.out (by simp [formeref06_Class.j0])
  | succ kj1 =>
   have H := HA.out
   clear HA
   simp only [formeref06_Class.j0] at H
   by_cases c4 : x8_1 = true
   ·subst c4
    have H1 : (some 1) = some r := by rw [if_pos rfl] at H; exact H
    clear H
    have H := H1
    clear H1
    obtain rfl := Option.some.inj H
    go_wp2
    go_ret
    exact ⟨by first | rfl | (simp; done) | (simp [*]; done), by repeat (first | exact Drawn0.refl _ | apply Drawn0.step)⟩
   ·replace c4 := Bool.eq_false_iff.mpr c4
    subst c4
    have H1 : (if a0 ≥ 65 then (formeref06_Class.j1 kj1 a0 (decide (a0 ≤ 90))) else (formeref06_Class.j1 kj1 a0 false)) = some r := by rw [if_neg (show ¬ (false = true) by decide)] at H; exact H
    clear H
    have H := H1
    clear H1
    have HC5 := Aside0.mk H
    clear H
    go_upto_region 3 with (fail)
    go_cut [14] (fun v14 wc => ∃ (kq : Nat) (x14_4 : Bool), v14 = .bool x14_4 ∧ Aside0 (formeref06_Class.j1 kq a0 x14_4 = some r) ∧ Aside0 (kq ≤ kj1) ∧ Drawn0 w wc)
    case first =>
     have H := HC5.out
     clear HC5
     by_cases c6 : a0 ≥ 65
     ·rw [if_pos c6] at H
      have c6b0 : decide (65 ≤ a0) = true := decide_eq_true c6
      clear c6
      (first | rw [c6b0] | (simp only [i64_w, i32_w]; rw [c6b0]) | skip)
      have H' := Aside0.mk H
      clear H
      go_wp2
      go_meet
      case rel => exact ⟨_, (decide (a0 ≤ 90)), (by first | rfl | (simp; done) | (simp [*]; done)), H', ⟨by have := HJ1.out; first | omega | exact Nat.le_refl _⟩, by repeat (first | exact Drawn0.refl _ | apply Drawn0.step)⟩
     ·rw [if_neg c6] at H
      have c6b0 : decide (65 ≤ a0) = false := decide_eq_false c6
      clear c6
      (first | rw [c6b0] | (simp only [i64_w, i32_w]; rw [c6b0]) | skip)
      have H' := Aside0.mk H
      clear H
      go_wp2
      go_meet
      case rel => exact ⟨_, (false), (by first | rfl | (simp; done) | (simp [*]; done)), H', ⟨by have := HJ1.out; first | omega | exact Nat.le_refl _⟩, by repeat (first | exact Drawn0.refl _ | apply Drawn0.step)⟩
    case rest =>
     clear HC5
     try clear c1
     try clear p2
     try clear c3
     try clear c3b0
     try clear c4
     try clear c6
     try clear c6b0
     try clear p2
     obtain ⟨kq, x14_4, rfl, HA, HJ4, ⟨mc4, rfl⟩⟩ := hcut
     cases kq with
     | zero => exact absurd HA.out (by simp [formeref06_Class.j1])
     | succ kj4 =>
      have H := HA.out
      clear HA
      simp only [formeref06_Class.j1] at H
      by_cases c7 : x14_4 = true
      ·subst c7
       have H1 : (some 2) = some r := by rw [if_pos rfl] at H; exact H
       clear H
       have H := H1
       clear H1
       obtain rfl := Option.some.inj H
       go_wp2
       go_ret
       exact ⟨by first | rfl | (simp; done) | (simp [*]; done), by repeat (first | exact Drawn0.refl _ | apply Drawn0.step)⟩
      ·replace c7 := Bool.eq_false_iff.mpr c7
       subst c7
       have H1 : (if a0 ≥ 48 then (formeref06_Class.j2 kj4 a0 (decide (a0 ≤ 57))) else (formeref06_Class.j2 kj4 a0 false)) = some r := by rw [if_neg (show ¬ (false = true) by decide)] at H; exact H
       clear H
       have H := H1
       clear H1
       have HC8 := Aside0.mk H
       clear H
       go_upto_region 5 with (fail)
       go_cut [20] (fun v20 wc => ∃ (kq : Nat) (x20_7 : Bool), v20 = .bool x20_7 ∧ Aside0 (formeref06_Class.j2 kq a0 x20_7 = some r) ∧ Aside0 (kq ≤ kj4) ∧ Drawn0 w wc)
       case first =>
        have H := HC8.out
        clear HC8
        by_cases c9 : a0 ≥ 48
        ·rw [if_pos c9] at H
         have c9b0 : decide (48 ≤ a0) = true := decide_eq_true c9
         clear c9
         (first | rw [c9b0] | (simp only [i64_w, i32_w]; rw [c9b0]) | skip)
         have H' := Aside0.mk H
         clear H
         go_wp2
         go_meet
         case rel => exact ⟨_, (decide (a0 ≤ 57)), (by first | rfl | (simp; done) | (simp [*]; done)), H', ⟨by have := HJ1.out; have := HJ4.out; first | omega | exact Nat.le_refl _⟩, by repeat (first | exact Drawn0.refl _ | apply Drawn0.step)⟩
        ·rw [if_neg c9] at H
         have c9b0 : decide (48 ≤ a0) = false := decide_eq_false c9
         clear c9
         (first | rw [c9b0] | (simp only [i64_w, i32_w]; rw [c9b0]) | skip)
         have H' := Aside0.mk H
         clear H
         go_wp2
         go_meet
         case rel => exact ⟨_, (false), (by first | rfl | (simp; done) | (simp [*]; done)), H', ⟨by have := HJ1.out; have := HJ4.out; first | omega | exact Nat.le_refl _⟩, by repeat (first | exact Drawn0.refl _ | apply Drawn0.step)⟩
       case rest =>
        clear HC8
        try clear c1
        try clear p2
        try clear c3
        try clear c3b0
        try clear c4
        try clear c6
        try clear c6b0
        try clear c7
        try clear c9
        try clear c9b0
        try clear p2
        obtain ⟨kq, x20_7, rfl, HA, HJ7, ⟨mc7, rfl⟩⟩ := hcut
        cases kq with
        | zero => exact absurd HA.out (by simp [formeref06_Class.j2])
        | succ kj7 =>
         have H := HA.out
         clear HA
         simp only [formeref06_Class.j2] at H
         by_cases c10 : x20_7 = true
         ·subst c10
          have H1 : (some 3) = some r := by rw [if_pos rfl] at H; exact H
          clear H
          have H := H1
          clear H1
          obtain rfl := Option.some.inj H
          go_wp2
          go_ret
          exact ⟨by first | rfl | (simp; done) | (simp [*]; done), by repeat (first | exact Drawn0.refl _ | apply Drawn0.step)⟩
         ·replace c10 := Bool.eq_false_iff.mpr c10
          subst c10
          have H1 : (if a0 = 32 then (some 4) else (if a0 = 126 then (some 6) else (if a0 > 32 then (if a0 < 126 then (some 5) else (some 0)) else (some 0)))) = some r := by rw [if_neg (show ¬ (false = true) by decide)] at H; exact H
          clear H
          have H := H1
          clear H1
          by_cases c11 : a0 = 32
          ·rw [if_pos c11] at H
           have c11b0 : (a0 == 32) = true := beq_iff_eq.mpr c11
           have c11b1 : (a0 != 32) = false := bne_eq_false_iff_eq.mpr c11
           clear c11
           obtain rfl := Option.some.inj H
           go_wp2
           go_ret
           exact ⟨by first | rfl | (simp; done) | (simp [*]; done), by repeat (first | exact Drawn0.refl _ | apply Drawn0.step)⟩
          ·rw [if_neg c11] at H
           have c11b0 : (a0 == 32) = false := beq_eq_false_iff_ne.mpr c11
           have c11b1 : (a0 != 32) = true := bne_iff_ne.mpr c11
           by_cases c12 : a0 = 126
           ·rw [if_pos c12] at H
            have c12b0 : (a0 == 126) = true := beq_iff_eq.mpr c12
            have c12b1 : (a0 != 126) = false := bne_eq_false_iff_eq.mpr c12
            clear c12
            obtain rfl := Option.some.inj H
            go_wp2
            go_ret
            exact ⟨by first | rfl | (simp; done) | (simp [*]; done), by repeat (first | exact Drawn0.refl _ | apply Drawn0.step)⟩
           ·rw [if_neg c12] at H
            have c12b0 : (a0 == 126) = false := beq_eq_false_iff_ne.mpr c12
            have c12b1 : (a0 != 126) = true := bne_iff_ne.mpr c12
            by_cases c13 : a0 > 32
            ·rw [if_pos c13] at H
             have c13b0 : decide (32 < a0) = true := decide_eq_true c13
             clear c13
             by_cases c14 : a0 < 126
             ·rw [if_pos c14] at H
              have c14b0 : decide (a0 < 126) = true := decide_eq_true c14
              clear c14
              obtain rfl := Option.some.inj H
              go_wp2
              go_ret
              exact ⟨by first | rfl | (simp; done) | (simp [*]; done), by repeat (first | exact Drawn0.refl _ | apply Drawn0.step)⟩
             ·rw [if_neg c14] at H
              have c14b0 : decide (a0 < 126) = false := decide_eq_false c14
              clear c14
              obtain rfl := Option.some.inj H
              go_wp2
              go_ret
              exact ⟨by first | rfl | (simp; done) | (simp [*]; done), by repeat (first | exact Drawn0.refl _ | apply Drawn0.step)⟩
            ·rw [if_neg c13] at H
             have c13b0 : decide (32 < a0) = false := decide_eq_false c13
             clear c13
             obtain rfl := Option.some.inj H
             go_wp2
             go_ret
             exact ⟨by first | rfl | (simp; done) | (simp [*]; done), by repeat (first | exact Drawn0.refl _ | apply Drawn0.step)⟩
end Go.Proofs.Ytpafhhgoldenoaa.P
end
section
namespace Go.Proofs.Ytpafhhgoldenoaa.P
open Go.RowKit Go.Proofs.YtpafhhgoldenoaaW.PrintWords Go.Proofs.YtpafhhgoldenoaaW.PrintLast Go.Proofs.YtpafhhgoldenoaaW.PrintMore
attribute [local go_sem] max2_int min2_int max_two min_two max_three min_three max_four min_four
set_option linter.unusedVariables false
set_option linter.unusedSimpArgs false
def formeref06_Valid.l0 : Nat → ByteArray → Int → Option (Bool)
 | 0, _, _ => none
 | k + 1, x0, x3 => if x3 < (x0.size : Int) then (if 0 ≤ x3 then ((formeref06_Class.f k (bt x0 x3)).bind fun t222 => (if t222 = 0 then (some false) else (formeref06_Valid.l0 k x0 (wrap64 (x3 + 1))))) else (none)) else (some (decide ((x0.size : Int) ≤ 2000)))
def formeref06_Valid.f (k : Nat) (a0 : ByteArray) : Option (Bool) := formeref06_Valid.l0 k a0 0
theorem formeref06_Valid.mono_l : ∀ k, (∀ y0 y1, LeO (formeref06_Valid.l0 k y0 y1) (formeref06_Valid.l0 (k + 1) y0 y1))
 | 0 => fun _ _ r h => by simp [formeref06_Valid.l0] at h
 | k + 1 => by
  have ih0 := formeref06_Valid.mono_l k
  ·intro y0 y1
   unfold formeref06_Valid.l0
   repeat' first
   | (with_reducible exact ih0 _ _)
   | (with_reducible exact formeref06_Class.mono _ _)
   | (with_reducible exact LeO.refl _)
   | (with_reducible exact LeO.none _)
   | (with_reducible refine LeO.ite ?_ ?_)
   | (with_reducible refine LeO.bind ?_ (fun _ => ?_))
   | exact ih0 _ _
   | exact formeref06_Class.mono _ _
   | exact LeO.none _
   | refine LeO.ite ?_ ?_
   | refine LeO.bind ?_ (fun _ => ?_)
theorem formeref06_Valid.mono : ∀ a0 k, LeO (formeref06_Valid.f k a0) (formeref06_Valid.f (k + 1) a0) := by
 intro a0 k
 have ih0 := formeref06_Valid.mono_l k
 unfold formeref06_Valid.f
 repeat' first
   | (with_reducible exact ih0 _ _)
   | (with_reducible exact formeref06_Class.mono _ _)
   | (with_reducible exact LeO.refl _)
   | (with_reducible exact LeO.none _)
   | (with_reducible refine LeO.ite ?_ ?_)
   | (with_reducible refine LeO.bind ?_ (fun _ => ?_))
   | exact ih0 _ _
   | exact formeref06_Class.mono _ _
   | exact LeO.none _
   | refine LeO.ite ?_ ?_
   | refine LeO.bind ?_ (fun _ => ?_)
set_option maxHeartbeats 8000000 in
set_option maxRecDepth 100000 in
theorem formeref06_Valid.calls (k : Nat) (a0 : ByteArray) (r : Bool) (w : World) (h : formeref06_Valid.f k a0 = some r) :
  Calls Try.prog 53 #[.string a0] w fun e w' => e = .returned (.bool r) ∧ Drawn0 w w' := by
 have H : (formeref06_Valid.l0 k a0 0) = some r := h
 clear h
 have H' := Aside0.mk H
 clear H
 go_enter Try.func53, Try.ntmps53
 go_wp2
 go_loopg [3] k (fun kq v3 w' => ∃ (x3_1 : Int), v3 = .int .i64 x3_1 ∧ Aside0 (formeref06_Valid.l0 kq a0 x3_1 = some r) ∧ Aside0 (kq ≤ k) ∧ Drawn0 w w')
 case atStart => exact ⟨(0), (by first | rfl | (simp; done) | (simp [*]; done)), H', ⟨Nat.le_refl _⟩, by repeat (first | exact Drawn0.refl _ | apply Drawn0.step)⟩
 case round =>
  clear H'
  obtain ⟨x3_1, rfl, HA, HK1, ⟨m1, rfl⟩⟩ := hrel
  cases gk with
  | zero => exact absurd HA.out (by simp [formeref06_Valid.l0])
  | succ k1 =>
   have H := HA.out
   clear HA
   simp only [formeref06_Valid.l0] at H
   by_cases c2 : x3_1 < (a0.size : Int)
   ·rw [if_pos c2] at H
    have c2b0 : decide (x3_1 < (a0.size : Int)) = true := decide_eq_true c2
    clear c2
    by_cases c3 : 0 ≤ x3_1
    rotate_left
    ·rw [if_neg c3] at H; exact absurd H (by simp)
    rw [if_pos c3] at H
    have c3b0 : decide (0 ≤ x3_1) = true := decide_eq_true c3
    clear c3
    replace H := Option.bind_eq_some_iff.mp H
    obtain ⟨t222, A50, H⟩ := H
    try dsimp only at H
    have A5 := Aside0.mk A50
    clear A50
    by_cases c6 : t222 = 0
    ·rw [if_pos c6] at H
     have c6b0 : (t222 == 0) = true := beq_iff_eq.mpr c6
     have c6b1 : (t222 != 0) = false := bne_eq_false_iff_eq.mpr c6
     clear c6
     obtain rfl := Option.some.inj H
     have p4 : 0 ≤ (x3_1 : Int) := of_decide_eq_true (by first | (with_reducible assumption) | assumption)
     have q4 : x3_1 < (a0.size : Int) := of_decide_eq_true (by first | (with_reducible assumption) | assumption)
     have hx4 := bt_at a0 x3_1
     replace p4 := eq_true p4
     replace q4 := eq_true q4
     go_wp2_with (first | ((with_reducible refine gate_callee (f := 61) rfl ?_); refine goesL_ (some 13) rfl rfl Try.func61 (by kernel_rfl) rfl #[.int .u8 (bt a0 x3_1)] rfl (by (try simp only [List.map_toArray, List.map_cons, List.map_nil]); first | done | rfl | (simp only [List.length_drop, List.length_take]; rfl)) ?_; (with_reducible refine (formeref06_Class.calls k1 (bt a0 x3_1) t222 _ A5.out).mono ?_); rintro e w' ⟨rfl, ⟨nd, rfl⟩⟩; refine ⟨_, rfl, ?_⟩))
     go_ret
     exact ⟨by first | rfl | (simp; done) | (simp [*]; done), by repeat (first | exact Drawn0.refl _ | apply Drawn0.step)⟩
    ·rw [if_neg c6] at H
     have c6b0 : (t222 == 0) = false := beq_eq_false_iff_ne.mpr c6
     have c6b1 : (t222 != 0) = true := bne_iff_ne.mpr c6
     have H' := Aside0.mk H
     clear H
     have p4 : 0 ≤ (x3_1 : Int) := of_decide_eq_true (by first | (with_reducible assumption) | assumption)
     have q4 : x3_1 < (a0.size : Int) := of_decide_eq_true (by first | (with_reducible assumption) | assumption)
     have hx4 := bt_at a0 x3_1
     replace p4 := eq_true p4
     replace q4 := eq_true q4
     go_wp2_with (first | ((with_reducible refine gate_callee (f := 61) rfl ?_); refine goesL_ (some 13) rfl rfl Try.func61 (by kernel_rfl) rfl #[.int .u8 (bt a0 x3_1)] rfl (by (try simp only [List.map_toArray, List.map_cons, List.map_nil]); first | done | rfl | (simp only [List.length_drop, List.length_take]; rfl)) ?_; (with_reducible refine (formeref06_Class.calls k1 (bt a0 x3_1) t222 _ A5.out).mono ?_); rintro e w' ⟨rfl, ⟨nd, rfl⟩⟩; refine ⟨_, rfl, ?_⟩))
     go_roundg k1
     case measure => have := HK1.out; omega
     case rel => exact ⟨(wrap64 (x3_1 + 1)), (by first | rfl | (simp; done) | (simp [*]; done)), H', ⟨by have := HK1.out; omega⟩, by repeat (first | exact Drawn0.refl _ | apply Drawn0.step)⟩
   ·rw [if_neg c2] at H
    have c2b0 : decide (x3_1 < (a0.size : Int)) = false := decide_eq_false c2
    clear c2
    obtain rfl := Option.some.inj H
    go_wp2
    go_ret
    exact ⟨by first | rfl | (simp; done) | (simp [*]; done), by repeat (first | exact Drawn0.refl _ | apply Drawn0.step)⟩
end Go.Proofs.Ytpafhhgoldenoaa.P
end
section
namespace Go.Proofs.Ytpafhhgoldenoaa.P
open Go.RowKit Go.Proofs.YtpafhhgoldenoaaW.PrintWords Go.Proofs.YtpafhhgoldenoaaW.PrintLast Go.Proofs.YtpafhhgoldenoaaW.PrintMore
attribute [local go_sem] max2_int min2_int max_two min_two max_three min_three max_four min_four
set_option linter.unusedVariables false
set_option linter.unusedSimpArgs false
def formeref10_Node.f (k : Nat) (a0_0 : Int) (a0_1 : Int) (a0_2 : Int) (a0_3 : Int) (a0_4 : ByteArray) : Option (Bool) := (formeref06_Valid.f k a0_4).bind fun t224 => (if t224 = true then ((formeref10_ID.f a0_0).bind fun t225 => (if t225 = true then (if a0_2 < 1 then (some false) else (if a0_2 > 11 then (some false) else (if a0_3 < 0 then (some false) else (if a0_3 > 100 then (some false) else (if a0_1 < 0 then (some false) else (if a0_1 > 1000000 then (some false) else (if a0_4.toList = ([] : List UInt8) then (some true) else (if a0_2 = 2 then (some true) else (some (a0_2 == 11)))))))))) else (some false))) else (some false))
theorem formeref10_Node.mono : ∀ a0 a1 a2 a3 a4 k, LeO (formeref10_Node.f k a0 a1 a2 a3 a4) (formeref10_Node.f (k + 1) a0 a1 a2 a3 a4) := by
 intro a0 a1 a2 a3 a4 k
 unfold formeref10_Node.f
 repeat' first
   | (with_reducible exact formeref06_Valid.mono _ _)
   | (with_reducible exact LeO.refl _)
   | (with_reducible exact LeO.none _)
   | (with_reducible refine LeO.ite ?_ ?_)
   | (with_reducible refine LeO.bind ?_ (fun _ => ?_))
   | exact formeref06_Valid.mono _ _
   | exact LeO.none _
   | refine LeO.ite ?_ ?_
   | refine LeO.bind ?_ (fun _ => ?_)
set_option maxHeartbeats 8000000 in
set_option maxRecDepth 100000 in
theorem formeref10_Node.calls (k : Nat) (a0_0 : Int) (a0_1 : Int) (a0_2 : Int) (a0_3 : Int) (a0_4 : ByteArray) (r : Bool) (w : World) (h : formeref10_Node.f k a0_0 a0_1 a0_2 a0_3 a0_4 = some r) :
  Calls Try.prog 35 #[.agg #[.int .i64 a0_0, .int .i64 a0_1, .int .i64 a0_2, .int .i64 a0_3, .string a0_4]] w fun e w' => e = .returned (.bool r) ∧ Below w.heap.size w w' := by
 have hu24 := Try.underlying24
 have HB := Aside0.mk (Below.refl w.heap.size w)
 have H : ((formeref06_Valid.f k a0_4).bind fun t224 => (if t224 = true then ((formeref10_ID.f a0_0).bind fun t225 => (if t225 = true then (if a0_2 < 1 then (some false) else (if a0_2 > 11 then (some false) else (if a0_3 < 0 then (some false) else (if a0_3 > 100 then (some false) else (if a0_1 < 0 then (some false) else (if a0_1 > 1000000 then (some false) else (if a0_4.toList = ([] : List UInt8) then (some true) else (if a0_2 = 2 then (some true) else (some (a0_2 == 11)))))))))) else (some false))) else (some false))) = some r := h
 clear h
 replace H := Option.bind_eq_some_iff.mp H
 obtain ⟨t224, A20, H⟩ := H
 try dsimp only at H
 have A2 := Aside0.mk A20
 clear A20
 by_cases c3 : t224 = true
 ·subst c3
  have H1 : ((formeref10_ID.f a0_0).bind fun t225 => (if t225 = true then (if a0_2 < 1 then (some false) else (if a0_2 > 11 then (some false) else (if a0_3 < 0 then (some false) else (if a0_3 > 100 then (some false) else (if a0_1 < 0 then (some false) else (if a0_1 > 1000000 then (some false) else (if a0_4.toList = ([] : List UInt8) then (some true) else (if a0_2 = 2 then (some true) else (some (a0_2 == 11)))))))))) else (some false))) = some r := by rw [if_pos rfl] at H; exact H
  clear H
  have H := H1
  clear H1
  replace H := Option.bind_eq_some_iff.mp H
  obtain ⟨t225, A40, H⟩ := H
  try dsimp only at H
  have A4 := Aside0.mk A40
  clear A40
  by_cases c5 : t225 = true
  ·subst c5
   have H1 : (if a0_2 < 1 then (some false) else (if a0_2 > 11 then (some false) else (if a0_3 < 0 then (some false) else (if a0_3 > 100 then (some false) else (if a0_1 < 0 then (some false) else (if a0_1 > 1000000 then (some false) else (if a0_4.toList = ([] : List UInt8) then (some true) else (if a0_2 = 2 then (some true) else (some (a0_2 == 11)))))))))) = some r := by rw [if_pos rfl] at H; exact H
   clear H
   have H := H1
   clear H1
   by_cases c6 : a0_2 < 1
   ·rw [if_pos c6] at H
    have c6b0 : decide (a0_2 < 1) = true := decide_eq_true c6
    clear c6
    obtain rfl := Option.some.inj H
    go_enter Try.func35, Try.ntmps35
    go_wp2_with (first | ((with_reducible refine gate_dst (N := 1) rfl ?_); refine box_event ?hg (N := 1) ?hd (cs := #[.int .i64 a0_0, .int .i64 a0_1, .int .i64 a0_2, .int .i64 a0_3, .string a0_4]) (t := 24) ?hr ?_; (case hd => rfl); (case hg => rfl); (case hr => first | (go_simp; done) | (go_simp; rfl)); intro gb223 hg w7 hbox hb; have n0_ := Aside0.mk (below_step (by repeat (first | (with_reducible first | exact HB.out | apply below_alloc | apply pw_below_drewN | apply below_drew1) | exact HB.out)) hb); have n1_ := Aside0.mk (hbox); have n2_ := Aside0.mk ((by rw [hg]; exact (below_size (by repeat (first | (with_reducible first | exact HB.out | apply below_alloc | apply pw_below_drewN | apply below_drew1) | exact HB.out))) : w.heap.size ≤ gb223)); have n3_ := Aside0.mk ((by rw [hg]; exact (below_size (by repeat (first | (with_reducible first | exact HB.out | apply below_alloc | apply pw_below_drewN | apply below_drew1) | exact HB.out))) : w.heap.size ≤ gb223)); clear HB; have HB := n0_; have BK223 := n1_; have GW223 := n2_; have GE223 := n3_; clear n0_ n1_ n2_ n3_; clear hb hbox hg; have hcz8_0 : w7.cell? ⟨gb223, 0, none⟩ = some (.int .i64 a0_0) := (blk_cell BK223.out 0).trans rfl; have hcz8_1 : w7.cell? ⟨gb223, 1, none⟩ = some (.int .i64 a0_1) := (blk_cell BK223.out 1).trans rfl; have hcz8_2 : w7.cell? ⟨gb223, 2, none⟩ = some (.int .i64 a0_2) := (blk_cell BK223.out 2).trans rfl; have hcz8_3 : w7.cell? ⟨gb223, 3, none⟩ = some (.int .i64 a0_3) := (blk_cell BK223.out 3).trans rfl; have hcz8_4 : w7.cell? ⟨gb223, 4, none⟩ = some (.string a0_4) := (blk_cell BK223.out 4).trans rfl; have hfz8_0 := blk_frozen BK223.out 0; have hfz8_1 := blk_frozen BK223.out 1; have hfz8_2 := blk_frozen BK223.out 2; have hfz8_3 := blk_frozen BK223.out 3; have hfz8_4 := blk_frozen BK223.out 4) | ((with_reducible refine gate_callee (f := 53) rfl ?_); refine goesL_ (some 6) rfl rfl Try.func53 (by kernel_rfl) rfl #[.string a0_4] rfl (by (try simp only [List.map_toArray, List.map_cons, List.map_nil]); first | done | rfl | (simp only [List.length_drop, List.length_take]; rfl)) ?_; (with_reducible refine (formeref06_Valid.calls k a0_4 true _ A2.out).mono ?_); rintro e w' ⟨rfl, ⟨nd, rfl⟩⟩; refine ⟨_, rfl, ?_⟩) | (go_at_call 33; (with_reducible refine (formeref10_ID.calls a0_0 true _ A4.out).mono ?_); rintro e w' ⟨rfl, ⟨nd, rfl⟩⟩))
    go_ret
    exact ⟨by first | rfl | (simp [errW_none, errW_some] <;> rfl) | (simp [*, errW_none, errW_some] <;> rfl), by repeat (first | (with_reducible first | exact HB.out | apply below_alloc | apply pw_below_drewN | apply below_drew1 | refine below_set ?_ GE223.out) | exact HB.out)⟩
   ·rw [if_neg c6] at H
    have c6b0 : decide (a0_2 < 1) = false := decide_eq_false c6
    clear c6
    by_cases c9 : a0_2 > 11
    ·rw [if_pos c9] at H
     have c9b0 : decide (11 < a0_2) = true := decide_eq_true c9
     clear c9
     obtain rfl := Option.some.inj H
     go_enter Try.func35, Try.ntmps35
     go_wp2_with (first | ((with_reducible refine gate_dst (N := 1) rfl ?_); refine box_event ?hg (N := 1) ?hd (cs := #[.int .i64 a0_0, .int .i64 a0_1, .int .i64 a0_2, .int .i64 a0_3, .string a0_4]) (t := 24) ?hr ?_; (case hd => rfl); (case hg => rfl); (case hr => first | (go_simp; done) | (go_simp; rfl)); intro gb223 hg w10 hbox hb; have n0_ := Aside0.mk (below_step (by repeat (first | (with_reducible first | exact HB.out | apply below_alloc | apply pw_below_drewN | apply below_drew1) | exact HB.out)) hb); have n1_ := Aside0.mk (hbox); have n2_ := Aside0.mk ((by rw [hg]; exact (below_size (by repeat (first | (with_reducible first | exact HB.out | apply below_alloc | apply pw_below_drewN | apply below_drew1) | exact HB.out))) : w.heap.size ≤ gb223)); have n3_ := Aside0.mk ((by rw [hg]; exact (below_size (by repeat (first | (with_reducible first | exact HB.out | apply below_alloc | apply pw_below_drewN | apply below_drew1) | exact HB.out))) : w.heap.size ≤ gb223)); clear HB; have HB := n0_; have BK223 := n1_; have GW223 := n2_; have GE223 := n3_; clear n0_ n1_ n2_ n3_; clear hb hbox hg; have hcz11_0 : w10.cell? ⟨gb223, 0, none⟩ = some (.int .i64 a0_0) := (blk_cell BK223.out 0).trans rfl; have hcz11_1 : w10.cell? ⟨gb223, 1, none⟩ = some (.int .i64 a0_1) := (blk_cell BK223.out 1).trans rfl; have hcz11_2 : w10.cell? ⟨gb223, 2, none⟩ = some (.int .i64 a0_2) := (blk_cell BK223.out 2).trans rfl; have hcz11_3 : w10.cell? ⟨gb223, 3, none⟩ = some (.int .i64 a0_3) := (blk_cell BK223.out 3).trans rfl; have hcz11_4 : w10.cell? ⟨gb223, 4, none⟩ = some (.string a0_4) := (blk_cell BK223.out 4).trans rfl; have hfz11_0 := blk_frozen BK223.out 0; have hfz11_1 := blk_frozen BK223.out 1; have hfz11_2 := blk_frozen BK223.out 2; have hfz11_3 := blk_frozen BK223.out 3; have hfz11_4 := blk_frozen BK223.out 4) | ((with_reducible refine gate_callee (f := 53) rfl ?_); refine goesL_ (some 6) rfl rfl Try.func53 (by kernel_rfl) rfl #[.string a0_4] rfl (by (try simp only [List.map_toArray, List.map_cons, List.map_nil]); first | done | rfl | (simp only [List.length_drop, List.length_take]; rfl)) ?_; (with_reducible refine (formeref06_Valid.calls k a0_4 true _ A2.out).mono ?_); rintro e w' ⟨rfl, ⟨nd, rfl⟩⟩; refine ⟨_, rfl, ?_⟩) | (go_at_call 33; (with_reducible refine (formeref10_ID.calls a0_0 true _ A4.out).mono ?_); rintro e w' ⟨rfl, ⟨nd, rfl⟩⟩))
     go_ret
     exact ⟨by first | rfl | (simp [errW_none, errW_some] <;> rfl) | (simp [*, errW_none, errW_some] <;> rfl), by repeat (first | (with_reducible first | exact HB.out | apply below_alloc | apply pw_below_drewN | apply below_drew1 | refine below_set ?_ GE223.out) | exact HB.out)⟩
    ·rw [if_neg c9] at H
     have c9b0 : decide (11 < a0_2) = false := decide_eq_false c9
     clear c9
     by_cases c12 : a0_3 < 0
     ·rw [if_pos c12] at H
      have c12b0 : decide (a0_3 < 0) = true := decide_eq_true c12
      clear c12
      obtain rfl := Option.some.inj H
      go_enter Try.func35, Try.ntmps35
      go_wp2_with (first | ((with_reducible refine gate_dst (N := 1) rfl ?_); refine box_event ?hg (N := 1) ?hd (cs := #[.int .i64 a0_0, .int .i64 a0_1, .int .i64 a0_2, .int .i64 a0_3, .string a0_4]) (t := 24) ?hr ?_; (case hd => rfl); (case hg => rfl); (case hr => first | (go_simp; done) | (go_simp; rfl)); intro gb223 hg w13 hbox hb; have n0_ := Aside0.mk (below_step (by repeat (first | (with_reducible first | exact HB.out | apply below_alloc | apply pw_below_drewN | apply below_drew1) | exact HB.out)) hb); have n1_ := Aside0.mk (hbox); have n2_ := Aside0.mk ((by rw [hg]; exact (below_size (by repeat (first | (with_reducible first | exact HB.out | apply below_alloc | apply pw_below_drewN | apply below_drew1) | exact HB.out))) : w.heap.size ≤ gb223)); have n3_ := Aside0.mk ((by rw [hg]; exact (below_size (by repeat (first | (with_reducible first | exact HB.out | apply below_alloc | apply pw_below_drewN | apply below_drew1) | exact HB.out))) : w.heap.size ≤ gb223)); clear HB; have HB := n0_; have BK223 := n1_; have GW223 := n2_; have GE223 := n3_; clear n0_ n1_ n2_ n3_; clear hb hbox hg; have hcz14_0 : w13.cell? ⟨gb223, 0, none⟩ = some (.int .i64 a0_0) := (blk_cell BK223.out 0).trans rfl; have hcz14_1 : w13.cell? ⟨gb223, 1, none⟩ = some (.int .i64 a0_1) := (blk_cell BK223.out 1).trans rfl; have hcz14_2 : w13.cell? ⟨gb223, 2, none⟩ = some (.int .i64 a0_2) := (blk_cell BK223.out 2).trans rfl; have hcz14_3 : w13.cell? ⟨gb223, 3, none⟩ = some (.int .i64 a0_3) := (blk_cell BK223.out 3).trans rfl; have hcz14_4 : w13.cell? ⟨gb223, 4, none⟩ = some (.string a0_4) := (blk_cell BK223.out 4).trans rfl; have hfz14_0 := blk_frozen BK223.out 0; have hfz14_1 := blk_frozen BK223.out 1; have hfz14_2 := blk_frozen BK223.out 2; have hfz14_3 := blk_frozen BK223.out 3; have hfz14_4 := blk_frozen BK223.out 4) | ((with_reducible refine gate_callee (f := 53) rfl ?_); refine goesL_ (some 6) rfl rfl Try.func53 (by kernel_rfl) rfl #[.string a0_4] rfl (by (try simp only [List.map_toArray, List.map_cons, List.map_nil]); first | done | rfl | (simp only [List.length_drop, List.length_take]; rfl)) ?_; (with_reducible refine (formeref06_Valid.calls k a0_4 true _ A2.out).mono ?_); rintro e w' ⟨rfl, ⟨nd, rfl⟩⟩; refine ⟨_, rfl, ?_⟩) | (go_at_call 33; (with_reducible refine (formeref10_ID.calls a0_0 true _ A4.out).mono ?_); rintro e w' ⟨rfl, ⟨nd, rfl⟩⟩))
      go_ret
      exact ⟨by first | rfl | (simp [errW_none, errW_some] <;> rfl) | (simp [*, errW_none, errW_some] <;> rfl), by repeat (first | (with_reducible first | exact HB.out | apply below_alloc | apply pw_below_drewN | apply below_drew1 | refine below_set ?_ GE223.out) | exact HB.out)⟩
     ·rw [if_neg c12] at H
      have c12b0 : decide (a0_3 < 0) = false := decide_eq_false c12
      clear c12
      by_cases c15 : a0_3 > 100
      ·rw [if_pos c15] at H
       have c15b0 : decide (100 < a0_3) = true := decide_eq_true c15
       clear c15
       obtain rfl := Option.some.inj H
       go_enter Try.func35, Try.ntmps35
       go_wp2_with (first | ((with_reducible refine gate_dst (N := 1) rfl ?_); refine box_event ?hg (N := 1) ?hd (cs := #[.int .i64 a0_0, .int .i64 a0_1, .int .i64 a0_2, .int .i64 a0_3, .string a0_4]) (t := 24) ?hr ?_; (case hd => rfl); (case hg => rfl); (case hr => first | (go_simp; done) | (go_simp; rfl)); intro gb223 hg w16 hbox hb; have n0_ := Aside0.mk (below_step (by repeat (first | (with_reducible first | exact HB.out | apply below_alloc | apply pw_below_drewN | apply below_drew1) | exact HB.out)) hb); have n1_ := Aside0.mk (hbox); have n2_ := Aside0.mk ((by rw [hg]; exact (below_size (by repeat (first | (with_reducible first | exact HB.out | apply below_alloc | apply pw_below_drewN | apply below_drew1) | exact HB.out))) : w.heap.size ≤ gb223)); have n3_ := Aside0.mk ((by rw [hg]; exact (below_size (by repeat (first | (with_reducible first | exact HB.out | apply below_alloc | apply pw_below_drewN | apply below_drew1) | exact HB.out))) : w.heap.size ≤ gb223)); clear HB; have HB := n0_; have BK223 := n1_; have GW223 := n2_; have GE223 := n3_; clear n0_ n1_ n2_ n3_; clear hb hbox hg; have hcz17_0 : w16.cell? ⟨gb223, 0, none⟩ = some (.int .i64 a0_0) := (blk_cell BK223.out 0).trans rfl; have hcz17_1 : w16.cell? ⟨gb223, 1, none⟩ = some (.int .i64 a0_1) := (blk_cell BK223.out 1).trans rfl; have hcz17_2 : w16.cell? ⟨gb223, 2, none⟩ = some (.int .i64 a0_2) := (blk_cell BK223.out 2).trans rfl; have hcz17_3 : w16.cell? ⟨gb223, 3, none⟩ = some (.int .i64 a0_3) := (blk_cell BK223.out 3).trans rfl; have hcz17_4 : w16.cell? ⟨gb223, 4, none⟩ = some (.string a0_4) := (blk_cell BK223.out 4).trans rfl; have hfz17_0 := blk_frozen BK223.out 0; have hfz17_1 := blk_frozen BK223.out 1; have hfz17_2 := blk_frozen BK223.out 2; have hfz17_3 := blk_frozen BK223.out 3; have hfz17_4 := blk_frozen BK223.out 4) | ((with_reducible refine gate_callee (f := 53) rfl ?_); refine goesL_ (some 6) rfl rfl Try.func53 (by kernel_rfl) rfl #[.string a0_4] rfl (by (try simp only [List.map_toArray, List.map_cons, List.map_nil]); first | done | rfl | (simp only [List.length_drop, List.length_take]; rfl)) ?_; (with_reducible refine (formeref06_Valid.calls k a0_4 true _ A2.out).mono ?_); rintro e w' ⟨rfl, ⟨nd, rfl⟩⟩; refine ⟨_, rfl, ?_⟩) | (go_at_call 33; (with_reducible refine (formeref10_ID.calls a0_0 true _ A4.out).mono ?_); rintro e w' ⟨rfl, ⟨nd, rfl⟩⟩))
       go_ret
       exact ⟨by first | rfl | (simp [errW_none, errW_some] <;> rfl) | (simp [*, errW_none, errW_some] <;> rfl), by repeat (first | (with_reducible first | exact HB.out | apply below_alloc | apply pw_below_drewN | apply below_drew1 | refine below_set ?_ GE223.out) | exact HB.out)⟩
      ·rw [if_neg c15] at H
       have c15b0 : decide (100 < a0_3) = false := decide_eq_false c15
       clear c15
       by_cases c18 : a0_1 < 0
       ·rw [if_pos c18] at H
        have c18b0 : decide (a0_1 < 0) = true := decide_eq_true c18
        clear c18
        obtain rfl := Option.some.inj H
        go_enter Try.func35, Try.ntmps35
        go_wp2_with (first | ((with_reducible refine gate_dst (N := 1) rfl ?_); refine box_event ?hg (N := 1) ?hd (cs := #[.int .i64 a0_0, .int .i64 a0_1, .int .i64 a0_2, .int .i64 a0_3, .string a0_4]) (t := 24) ?hr ?_; (case hd => rfl); (case hg => rfl); (case hr => first | (go_simp; done) | (go_simp; rfl)); intro gb223 hg w19 hbox hb; have n0_ := Aside0.mk (below_step (by repeat (first | (with_reducible first | exact HB.out | apply below_alloc | apply pw_below_drewN | apply below_drew1) | exact HB.out)) hb); have n1_ := Aside0.mk (hbox); have n2_ := Aside0.mk ((by rw [hg]; exact (below_size (by repeat (first | (with_reducible first | exact HB.out | apply below_alloc | apply pw_below_drewN | apply below_drew1) | exact HB.out))) : w.heap.size ≤ gb223)); have n3_ := Aside0.mk ((by rw [hg]; exact (below_size (by repeat (first | (with_reducible first | exact HB.out | apply below_alloc | apply pw_below_drewN | apply below_drew1) | exact HB.out))) : w.heap.size ≤ gb223)); clear HB; have HB := n0_; have BK223 := n1_; have GW223 := n2_; have GE223 := n3_; clear n0_ n1_ n2_ n3_; clear hb hbox hg; have hcz20_0 : w19.cell? ⟨gb223, 0, none⟩ = some (.int .i64 a0_0) := (blk_cell BK223.out 0).trans rfl; have hcz20_1 : w19.cell? ⟨gb223, 1, none⟩ = some (.int .i64 a0_1) := (blk_cell BK223.out 1).trans rfl; have hcz20_2 : w19.cell? ⟨gb223, 2, none⟩ = some (.int .i64 a0_2) := (blk_cell BK223.out 2).trans rfl; have hcz20_3 : w19.cell? ⟨gb223, 3, none⟩ = some (.int .i64 a0_3) := (blk_cell BK223.out 3).trans rfl; have hcz20_4 : w19.cell? ⟨gb223, 4, none⟩ = some (.string a0_4) := (blk_cell BK223.out 4).trans rfl; have hfz20_0 := blk_frozen BK223.out 0; have hfz20_1 := blk_frozen BK223.out 1; have hfz20_2 := blk_frozen BK223.out 2; have hfz20_3 := blk_frozen BK223.out 3; have hfz20_4 := blk_frozen BK223.out 4) | ((with_reducible refine gate_callee (f := 53) rfl ?_); refine goesL_ (some 6) rfl rfl Try.func53 (by kernel_rfl) rfl #[.string a0_4] rfl (by (try simp only [List.map_toArray, List.map_cons, List.map_nil]); first | done | rfl | (simp only [List.length_drop, List.length_take]; rfl)) ?_; (with_reducible refine (formeref06_Valid.calls k a0_4 true _ A2.out).mono ?_); rintro e w' ⟨rfl, ⟨nd, rfl⟩⟩; refine ⟨_, rfl, ?_⟩) | (go_at_call 33; (with_reducible refine (formeref10_ID.calls a0_0 true _ A4.out).mono ?_); rintro e w' ⟨rfl, ⟨nd, rfl⟩⟩))
        go_ret
        exact ⟨by first | rfl | (simp [errW_none, errW_some] <;> rfl) | (simp [*, errW_none, errW_some] <;> rfl), by repeat (first | (with_reducible first | exact HB.out | apply below_alloc | apply pw_below_drewN | apply below_drew1 | refine below_set ?_ GE223.out) | exact HB.out)⟩
       ·rw [if_neg c18] at H
        have c18b0 : decide (a0_1 < 0) = false := decide_eq_false c18
        clear c18
        by_cases c21 : a0_1 > 1000000
        ·rw [if_pos c21] at H
         have c21b0 : decide (1000000 < a0_1) = true := decide_eq_true c21
         clear c21
         obtain rfl := Option.some.inj H
         go_enter Try.func35, Try.ntmps35
         go_wp2_with (first | ((with_reducible refine gate_dst (N := 1) rfl ?_); refine box_event ?hg (N := 1) ?hd (cs := #[.int .i64 a0_0, .int .i64 a0_1, .int .i64 a0_2, .int .i64 a0_3, .string a0_4]) (t := 24) ?hr ?_; (case hd => rfl); (case hg => rfl); (case hr => first | (go_simp; done) | (go_simp; rfl)); intro gb223 hg w22 hbox hb; have n0_ := Aside0.mk (below_step (by repeat (first | (with_reducible first | exact HB.out | apply below_alloc | apply pw_below_drewN | apply below_drew1) | exact HB.out)) hb); have n1_ := Aside0.mk (hbox); have n2_ := Aside0.mk ((by rw [hg]; exact (below_size (by repeat (first | (with_reducible first | exact HB.out | apply below_alloc | apply pw_below_drewN | apply below_drew1) | exact HB.out))) : w.heap.size ≤ gb223)); have n3_ := Aside0.mk ((by rw [hg]; exact (below_size (by repeat (first | (with_reducible first | exact HB.out | apply below_alloc | apply pw_below_drewN | apply below_drew1) | exact HB.out))) : w.heap.size ≤ gb223)); clear HB; have HB := n0_; have BK223 := n1_; have GW223 := n2_; have GE223 := n3_; clear n0_ n1_ n2_ n3_; clear hb hbox hg; have hcz23_0 : w22.cell? ⟨gb223, 0, none⟩ = some (.int .i64 a0_0) := (blk_cell BK223.out 0).trans rfl; have hcz23_1 : w22.cell? ⟨gb223, 1, none⟩ = some (.int .i64 a0_1) := (blk_cell BK223.out 1).trans rfl; have hcz23_2 : w22.cell? ⟨gb223, 2, none⟩ = some (.int .i64 a0_2) := (blk_cell BK223.out 2).trans rfl; have hcz23_3 : w22.cell? ⟨gb223, 3, none⟩ = some (.int .i64 a0_3) := (blk_cell BK223.out 3).trans rfl; have hcz23_4 : w22.cell? ⟨gb223, 4, none⟩ = some (.string a0_4) := (blk_cell BK223.out 4).trans rfl; have hfz23_0 := blk_frozen BK223.out 0; have hfz23_1 := blk_frozen BK223.out 1; have hfz23_2 := blk_frozen BK223.out 2; have hfz23_3 := blk_frozen BK223.out 3; have hfz23_4 := blk_frozen BK223.out 4) | ((with_reducible refine gate_callee (f := 53) rfl ?_); refine goesL_ (some 6) rfl rfl Try.func53 (by kernel_rfl) rfl #[.string a0_4] rfl (by (try simp only [List.map_toArray, List.map_cons, List.map_nil]); first | done | rfl | (simp only [List.length_drop, List.length_take]; rfl)) ?_; (with_reducible refine (formeref06_Valid.calls k a0_4 true _ A2.out).mono ?_); rintro e w' ⟨rfl, ⟨nd, rfl⟩⟩; refine ⟨_, rfl, ?_⟩) | (go_at_call 33; (with_reducible refine (formeref10_ID.calls a0_0 true _ A4.out).mono ?_); rintro e w' ⟨rfl, ⟨nd, rfl⟩⟩))
         go_ret
         exact ⟨by first | rfl | (simp [errW_none, errW_some] <;> rfl) | (simp [*, errW_none, errW_some] <;> rfl), by repeat (first | (with_reducible first | exact HB.out | apply below_alloc | apply pw_below_drewN | apply below_drew1 | refine below_set ?_ GE223.out) | exact HB.out)⟩
        ·rw [if_neg c21] at H
         have c21b0 : decide (1000000 < a0_1) = false := decide_eq_false c21
         clear c21
         by_cases c24 : a0_4.toList = ([] : List UInt8)
         ·rw [if_pos c24] at H
          have c24b0 : (a0_4.toList == ([] : List UInt8)) = true := beq_iff_eq.mpr c24
          have c24b1 : (a0_4.toList != ([] : List UInt8)) = false := bne_eq_false_iff_eq.mpr c24
          clear c24
          obtain rfl := Option.some.inj H
          go_enter Try.func35, Try.ntmps35
          go_wp2_with (first | ((with_reducible refine gate_dst (N := 1) rfl ?_); refine box_event ?hg (N := 1) ?hd (cs := #[.int .i64 a0_0, .int .i64 a0_1, .int .i64 a0_2, .int .i64 a0_3, .string a0_4]) (t := 24) ?hr ?_; (case hd => rfl); (case hg => rfl); (case hr => first | (go_simp; done) | (go_simp; rfl)); intro gb223 hg w25 hbox hb; have n0_ := Aside0.mk (below_step (by repeat (first | (with_reducible first | exact HB.out | apply below_alloc | apply pw_below_drewN | apply below_drew1) | exact HB.out)) hb); have n1_ := Aside0.mk (hbox); have n2_ := Aside0.mk ((by rw [hg]; exact (below_size (by repeat (first | (with_reducible first | exact HB.out | apply below_alloc | apply pw_below_drewN | apply below_drew1) | exact HB.out))) : w.heap.size ≤ gb223)); have n3_ := Aside0.mk ((by rw [hg]; exact (below_size (by repeat (first | (with_reducible first | exact HB.out | apply below_alloc | apply pw_below_drewN | apply below_drew1) | exact HB.out))) : w.heap.size ≤ gb223)); clear HB; have HB := n0_; have BK223 := n1_; have GW223 := n2_; have GE223 := n3_; clear n0_ n1_ n2_ n3_; clear hb hbox hg; have hcz26_0 : w25.cell? ⟨gb223, 0, none⟩ = some (.int .i64 a0_0) := (blk_cell BK223.out 0).trans rfl; have hcz26_1 : w25.cell? ⟨gb223, 1, none⟩ = some (.int .i64 a0_1) := (blk_cell BK223.out 1).trans rfl; have hcz26_2 : w25.cell? ⟨gb223, 2, none⟩ = some (.int .i64 a0_2) := (blk_cell BK223.out 2).trans rfl; have hcz26_3 : w25.cell? ⟨gb223, 3, none⟩ = some (.int .i64 a0_3) := (blk_cell BK223.out 3).trans rfl; have hcz26_4 : w25.cell? ⟨gb223, 4, none⟩ = some (.string a0_4) := (blk_cell BK223.out 4).trans rfl; have hfz26_0 := blk_frozen BK223.out 0; have hfz26_1 := blk_frozen BK223.out 1; have hfz26_2 := blk_frozen BK223.out 2; have hfz26_3 := blk_frozen BK223.out 3; have hfz26_4 := blk_frozen BK223.out 4) | ((with_reducible refine gate_callee (f := 53) rfl ?_); refine goesL_ (some 6) rfl rfl Try.func53 (by kernel_rfl) rfl #[.string a0_4] rfl (by (try simp only [List.map_toArray, List.map_cons, List.map_nil]); first | done | rfl | (simp only [List.length_drop, List.length_take]; rfl)) ?_; (with_reducible refine (formeref06_Valid.calls k a0_4 true _ A2.out).mono ?_); rintro e w' ⟨rfl, ⟨nd, rfl⟩⟩; refine ⟨_, rfl, ?_⟩) | (go_at_call 33; (with_reducible refine (formeref10_ID.calls a0_0 true _ A4.out).mono ?_); rintro e w' ⟨rfl, ⟨nd, rfl⟩⟩))
          go_ret
          exact ⟨by first | rfl | (simp [errW_none, errW_some] <;> rfl) | (simp [*, errW_none, errW_some] <;> rfl), by repeat (first | (with_reducible first | exact HB.out | apply below_alloc | apply pw_below_drewN | apply below_drew1 | refine below_set ?_ GE223.out) | exact HB.out)⟩
         ·rw [if_neg c24] at H
          have c24b0 : (a0_4.toList == ([] : List UInt8)) = false := beq_eq_false_iff_ne.mpr c24
          have c24b1 : (a0_4.toList != ([] : List UInt8)) = true := bne_iff_ne.mpr c24
          by_cases c27 : a0_2 = 2
          ·rw [if_pos c27] at H
           have c27b0 : (a0_2 == 2) = true := beq_iff_eq.mpr c27
           have c27b1 : (a0_2 != 2) = false := bne_eq_false_iff_eq.mpr c27
           clear c27
           obtain rfl := Option.some.inj H
           go_enter Try.func35, Try.ntmps35
           go_wp2_with (first | ((with_reducible refine gate_dst (N := 1) rfl ?_); refine box_event ?hg (N := 1) ?hd (cs := #[.int .i64 a0_0, .int .i64 a0_1, .int .i64 a0_2, .int .i64 a0_3, .string a0_4]) (t := 24) ?hr ?_; (case hd => rfl); (case hg => rfl); (case hr => first | (go_simp; done) | (go_simp; rfl)); intro gb223 hg w28 hbox hb; have n0_ := Aside0.mk (below_step (by repeat (first | (with_reducible first | exact HB.out | apply below_alloc | apply pw_below_drewN | apply below_drew1) | exact HB.out)) hb); have n1_ := Aside0.mk (hbox); have n2_ := Aside0.mk ((by rw [hg]; exact (below_size (by repeat (first | (with_reducible first | exact HB.out | apply below_alloc | apply pw_below_drewN | apply below_drew1) | exact HB.out))) : w.heap.size ≤ gb223)); have n3_ := Aside0.mk ((by rw [hg]; exact (below_size (by repeat (first | (with_reducible first | exact HB.out | apply below_alloc | apply pw_below_drewN | apply below_drew1) | exact HB.out))) : w.heap.size ≤ gb223)); clear HB; have HB := n0_; have BK223 := n1_; have GW223 := n2_; have GE223 := n3_; clear n0_ n1_ n2_ n3_; clear hb hbox hg; have hcz29_0 : w28.cell? ⟨gb223, 0, none⟩ = some (.int .i64 a0_0) := (blk_cell BK223.out 0).trans rfl; have hcz29_1 : w28.cell? ⟨gb223, 1, none⟩ = some (.int .i64 a0_1) := (blk_cell BK223.out 1).trans rfl; have hcz29_2 : w28.cell? ⟨gb223, 2, none⟩ = some (.int .i64 a0_2) := (blk_cell BK223.out 2).trans rfl; have hcz29_3 : w28.cell? ⟨gb223, 3, none⟩ = some (.int .i64 a0_3) := (blk_cell BK223.out 3).trans rfl; have hcz29_4 : w28.cell? ⟨gb223, 4, none⟩ = some (.string a0_4) := (blk_cell BK223.out 4).trans rfl; have hfz29_0 := blk_frozen BK223.out 0; have hfz29_1 := blk_frozen BK223.out 1; have hfz29_2 := blk_frozen BK223.out 2; have hfz29_3 := blk_frozen BK223.out 3; have hfz29_4 := blk_frozen BK223.out 4) | ((with_reducible refine gate_callee (f := 53) rfl ?_); refine goesL_ (some 6) rfl rfl Try.func53 (by kernel_rfl) rfl #[.string a0_4] rfl (by (try simp only [List.map_toArray, List.map_cons, List.map_nil]); first | done | rfl | (simp only [List.length_drop, List.length_take]; rfl)) ?_; (with_reducible refine (formeref06_Valid.calls k a0_4 true _ A2.out).mono ?_); rintro e w' ⟨rfl, ⟨nd, rfl⟩⟩; refine ⟨_, rfl, ?_⟩) | (go_at_call 33; (with_reducible refine (formeref10_ID.calls a0_0 true _ A4.out).mono ?_); rintro e w' ⟨rfl, ⟨nd, rfl⟩⟩))
           go_ret
           exact ⟨by first | rfl | (simp [errW_none, errW_some] <;> rfl) | (simp [*, errW_none, errW_some] <;> rfl), by repeat (first | (with_reducible first | exact HB.out | apply below_alloc | apply pw_below_drewN | apply below_drew1 | refine below_set ?_ GE223.out) | exact HB.out)⟩
          ·rw [if_neg c27] at H
           have c27b0 : (a0_2 == 2) = false := beq_eq_false_iff_ne.mpr c27
           have c27b1 : (a0_2 != 2) = true := bne_iff_ne.mpr c27
           obtain rfl := Option.some.inj H
           go_enter Try.func35, Try.ntmps35
           go_wp2_with (first | ((with_reducible refine gate_dst (N := 1) rfl ?_); refine box_event ?hg (N := 1) ?hd (cs := #[.int .i64 a0_0, .int .i64 a0_1, .int .i64 a0_2, .int .i64 a0_3, .string a0_4]) (t := 24) ?hr ?_; (case hd => rfl); (case hg => rfl); (case hr => first | (go_simp; done) | (go_simp; rfl)); intro gb223 hg w30 hbox hb; have n0_ := Aside0.mk (below_step (by repeat (first | (with_reducible first | exact HB.out | apply below_alloc | apply pw_below_drewN | apply below_drew1) | exact HB.out)) hb); have n1_ := Aside0.mk (hbox); have n2_ := Aside0.mk ((by rw [hg]; exact (below_size (by repeat (first | (with_reducible first | exact HB.out | apply below_alloc | apply pw_below_drewN | apply below_drew1) | exact HB.out))) : w.heap.size ≤ gb223)); have n3_ := Aside0.mk ((by rw [hg]; exact (below_size (by repeat (first | (with_reducible first | exact HB.out | apply below_alloc | apply pw_below_drewN | apply below_drew1) | exact HB.out))) : w.heap.size ≤ gb223)); clear HB; have HB := n0_; have BK223 := n1_; have GW223 := n2_; have GE223 := n3_; clear n0_ n1_ n2_ n3_; clear hb hbox hg; have hcz31_0 : w30.cell? ⟨gb223, 0, none⟩ = some (.int .i64 a0_0) := (blk_cell BK223.out 0).trans rfl; have hcz31_1 : w30.cell? ⟨gb223, 1, none⟩ = some (.int .i64 a0_1) := (blk_cell BK223.out 1).trans rfl; have hcz31_2 : w30.cell? ⟨gb223, 2, none⟩ = some (.int .i64 a0_2) := (blk_cell BK223.out 2).trans rfl; have hcz31_3 : w30.cell? ⟨gb223, 3, none⟩ = some (.int .i64 a0_3) := (blk_cell BK223.out 3).trans rfl; have hcz31_4 : w30.cell? ⟨gb223, 4, none⟩ = some (.string a0_4) := (blk_cell BK223.out 4).trans rfl; have hfz31_0 := blk_frozen BK223.out 0; have hfz31_1 := blk_frozen BK223.out 1; have hfz31_2 := blk_frozen BK223.out 2; have hfz31_3 := blk_frozen BK223.out 3; have hfz31_4 := blk_frozen BK223.out 4) | ((with_reducible refine gate_callee (f := 53) rfl ?_); refine goesL_ (some 6) rfl rfl Try.func53 (by kernel_rfl) rfl #[.string a0_4] rfl (by (try simp only [List.map_toArray, List.map_cons, List.map_nil]); first | done | rfl | (simp only [List.length_drop, List.length_take]; rfl)) ?_; (with_reducible refine (formeref06_Valid.calls k a0_4 true _ A2.out).mono ?_); rintro e w' ⟨rfl, ⟨nd, rfl⟩⟩; refine ⟨_, rfl, ?_⟩) | (go_at_call 33; (with_reducible refine (formeref10_ID.calls a0_0 true _ A4.out).mono ?_); rintro e w' ⟨rfl, ⟨nd, rfl⟩⟩))
           go_ret
           exact ⟨by first | rfl | (simp [errW_none, errW_some] <;> rfl) | (simp [*, errW_none, errW_some] <;> rfl), by repeat (first | (with_reducible first | exact HB.out | apply below_alloc | apply pw_below_drewN | apply below_drew1 | refine below_set ?_ GE223.out) | exact HB.out)⟩
  ·replace c5 := Bool.eq_false_iff.mpr c5
   subst c5
   have H1 : (some false) = some r := by rw [if_neg (show ¬ (false = true) by decide)] at H; exact H
   clear H
   have H := H1
   clear H1
   obtain rfl := Option.some.inj H
   go_enter Try.func35, Try.ntmps35
   go_wp2_with (first | ((with_reducible refine gate_dst (N := 1) rfl ?_); refine box_event ?hg (N := 1) ?hd (cs := #[.int .i64 a0_0, .int .i64 a0_1, .int .i64 a0_2, .int .i64 a0_3, .string a0_4]) (t := 24) ?hr ?_; (case hd => rfl); (case hg => rfl); (case hr => first | (go_simp; done) | (go_simp; rfl)); intro gb223 hg w32 hbox hb; have n0_ := Aside0.mk (below_step (by repeat (first | (with_reducible first | exact HB.out | apply below_alloc | apply pw_below_drewN | apply below_drew1) | exact HB.out)) hb); have n1_ := Aside0.mk (hbox); have n2_ := Aside0.mk ((by rw [hg]; exact (below_size (by repeat (first | (with_reducible first | exact HB.out | apply below_alloc | apply pw_below_drewN | apply below_drew1) | exact HB.out))) : w.heap.size ≤ gb223)); have n3_ := Aside0.mk ((by rw [hg]; exact (below_size (by repeat (first | (with_reducible first | exact HB.out | apply below_alloc | apply pw_below_drewN | apply below_drew1) | exact HB.out))) : w.heap.size ≤ gb223)); clear HB; have HB := n0_; have BK223 := n1_; have GW223 := n2_; have GE223 := n3_; clear n0_ n1_ n2_ n3_; clear hb hbox hg; have hcz33_0 : w32.cell? ⟨gb223, 0, none⟩ = some (.int .i64 a0_0) := (blk_cell BK223.out 0).trans rfl; have hcz33_1 : w32.cell? ⟨gb223, 1, none⟩ = some (.int .i64 a0_1) := (blk_cell BK223.out 1).trans rfl; have hcz33_2 : w32.cell? ⟨gb223, 2, none⟩ = some (.int .i64 a0_2) := (blk_cell BK223.out 2).trans rfl; have hcz33_3 : w32.cell? ⟨gb223, 3, none⟩ = some (.int .i64 a0_3) := (blk_cell BK223.out 3).trans rfl; have hcz33_4 : w32.cell? ⟨gb223, 4, none⟩ = some (.string a0_4) := (blk_cell BK223.out 4).trans rfl; have hfz33_0 := blk_frozen BK223.out 0; have hfz33_1 := blk_frozen BK223.out 1; have hfz33_2 := blk_frozen BK223.out 2; have hfz33_3 := blk_frozen BK223.out 3; have hfz33_4 := blk_frozen BK223.out 4) | ((with_reducible refine gate_callee (f := 53) rfl ?_); refine goesL_ (some 6) rfl rfl Try.func53 (by kernel_rfl) rfl #[.string a0_4] rfl (by (try simp only [List.map_toArray, List.map_cons, List.map_nil]); first | done | rfl | (simp only [List.length_drop, List.length_take]; rfl)) ?_; (with_reducible refine (formeref06_Valid.calls k a0_4 true _ A2.out).mono ?_); rintro e w' ⟨rfl, ⟨nd, rfl⟩⟩; refine ⟨_, rfl, ?_⟩) | (go_at_call 33; (with_reducible refine (formeref10_ID.calls a0_0 false _ A4.out).mono ?_); rintro e w' ⟨rfl, ⟨nd, rfl⟩⟩))
   go_ret
   exact ⟨by first | rfl | (simp [errW_none, errW_some] <;> rfl) | (simp [*, errW_none, errW_some] <;> rfl), by repeat (first | (with_reducible first | exact HB.out | apply below_alloc | apply pw_below_drewN | apply below_drew1 | refine below_set ?_ GE223.out) | exact HB.out)⟩
 ·replace c3 := Bool.eq_false_iff.mpr c3
  subst c3
  have H1 : (some false) = some r := by rw [if_neg (show ¬ (false = true) by decide)] at H; exact H
  clear H
  have H := H1
  clear H1
  obtain rfl := Option.some.inj H
  go_enter Try.func35, Try.ntmps35
  go_wp2_with (first | ((with_reducible refine gate_dst (N := 1) rfl ?_); refine box_event ?hg (N := 1) ?hd (cs := #[.int .i64 a0_0, .int .i64 a0_1, .int .i64 a0_2, .int .i64 a0_3, .string a0_4]) (t := 24) ?hr ?_; (case hd => rfl); (case hg => rfl); (case hr => first | (go_simp; done) | (go_simp; rfl)); intro gb223 hg w34 hbox hb; have n0_ := Aside0.mk (below_step (by repeat (first | (with_reducible first | exact HB.out | apply below_alloc | apply pw_below_drewN | apply below_drew1) | exact HB.out)) hb); have n1_ := Aside0.mk (hbox); have n2_ := Aside0.mk ((by rw [hg]; exact (below_size (by repeat (first | (with_reducible first | exact HB.out | apply below_alloc | apply pw_below_drewN | apply below_drew1) | exact HB.out))) : w.heap.size ≤ gb223)); have n3_ := Aside0.mk ((by rw [hg]; exact (below_size (by repeat (first | (with_reducible first | exact HB.out | apply below_alloc | apply pw_below_drewN | apply below_drew1) | exact HB.out))) : w.heap.size ≤ gb223)); clear HB; have HB := n0_; have BK223 := n1_; have GW223 := n2_; have GE223 := n3_; clear n0_ n1_ n2_ n3_; clear hb hbox hg; have hcz35_0 : w34.cell? ⟨gb223, 0, none⟩ = some (.int .i64 a0_0) := (blk_cell BK223.out 0).trans rfl; have hcz35_1 : w34.cell? ⟨gb223, 1, none⟩ = some (.int .i64 a0_1) := (blk_cell BK223.out 1).trans rfl; have hcz35_2 : w34.cell? ⟨gb223, 2, none⟩ = some (.int .i64 a0_2) := (blk_cell BK223.out 2).trans rfl; have hcz35_3 : w34.cell? ⟨gb223, 3, none⟩ = some (.int .i64 a0_3) := (blk_cell BK223.out 3).trans rfl; have hcz35_4 : w34.cell? ⟨gb223, 4, none⟩ = some (.string a0_4) := (blk_cell BK223.out 4).trans rfl; have hfz35_0 := blk_frozen BK223.out 0; have hfz35_1 := blk_frozen BK223.out 1; have hfz35_2 := blk_frozen BK223.out 2; have hfz35_3 := blk_frozen BK223.out 3; have hfz35_4 := blk_frozen BK223.out 4) | ((with_reducible refine gate_callee (f := 53) rfl ?_); refine goesL_ (some 6) rfl rfl Try.func53 (by kernel_rfl) rfl #[.string a0_4] rfl (by (try simp only [List.map_toArray, List.map_cons, List.map_nil]); first | done | rfl | (simp only [List.length_drop, List.length_take]; rfl)) ?_; (with_reducible refine (formeref06_Valid.calls k a0_4 false _ A2.out).mono ?_); rintro e w' ⟨rfl, ⟨nd, rfl⟩⟩; refine ⟨_, rfl, ?_⟩))
  go_ret
  exact ⟨by first | rfl | (simp [errW_none, errW_some] <;> rfl) | (simp [*, errW_none, errW_some] <;> rfl), by repeat (first | (with_reducible first | exact HB.out | apply below_alloc | apply pw_below_drewN | apply below_drew1 | refine below_set ?_ GE223.out) | exact HB.out)⟩
end Go.Proofs.Ytpafhhgoldenoaa.P
end
section
namespace Go.Proofs.Ytpafhhgoldenoaa.P
open Go.RowKit Go.Proofs.YtpafhhgoldenoaaW.PrintWords Go.Proofs.YtpafhhgoldenoaaW.PrintLast Go.Proofs.YtpafhhgoldenoaaW.PrintMore
attribute [local go_sem] max2_int min2_int max_two min_two max_three min_three max_four min_four
set_option linter.unusedVariables false
set_option linter.unusedSimpArgs false
def formeref10_Stands.f (a0 : Int) (a1 : Int) : Option (Bool) := if a0 = 8 then (some (a1 == 7)) else (if a0 = 9 then (some (a1 == 8)) else (if a1 = 1 then (some true) else (if a1 = 3 then (some true) else (if a1 = 4 then (some true) else (if a1 = 5 then (some true) else (if a1 = 6 then (some true) else (some (a1 == 9))))))))
set_option maxHeartbeats 8000000 in
set_option maxRecDepth 100000 in
theorem formeref10_Stands.calls (a0 : Int) (a1 : Int) (r : Bool) (w : World) (h : formeref10_Stands.f a0 a1 = some r) :
  Calls Try.prog 46 #[.int .i64 a0, .int .i64 a1] w fun e w' => e = .returned (.bool r) ∧ Drawn0 w w' := by
 have H : (if a0 = 8 then (some (a1 == 7)) else (if a0 = 9 then (some (a1 == 8)) else (if a1 = 1 then (some true) else (if a1 = 3 then (some true) else (if a1 = 4 then (some true) else (if a1 = 5 then (some true) else (if a1 = 6 then (some true) else (some (a1 == 9))))))))) = some r := h
 clear h
 by_cases c3 : a0 = 8
 ·rw [if_pos c3] at H
  have c3b0 : (a0 == 8) = true := beq_iff_eq.mpr c3
  have c3b1 : (a0 != 8) = false := bne_eq_false_iff_eq.mpr c3
  clear c3
  obtain rfl := Option.some.inj H
  go_enter Try.func46, Try.ntmps46
  go_wp2
  go_ret
  exact ⟨by first | rfl | (simp; done) | (simp [*]; done), by repeat (first | exact Drawn0.refl _ | apply Drawn0.step)⟩
 ·rw [if_neg c3] at H
  have c3b0 : (a0 == 8) = false := beq_eq_false_iff_ne.mpr c3
  have c3b1 : (a0 != 8) = true := bne_iff_ne.mpr c3
  by_cases c4 : a0 = 9
  ·rw [if_pos c4] at H
   have c4b0 : (a0 == 9) = true := beq_iff_eq.mpr c4
   have c4b1 : (a0 != 9) = false := bne_eq_false_iff_eq.mpr c4
   clear c4
   obtain rfl := Option.some.inj H
   go_enter Try.func46, Try.ntmps46
   go_wp2
   go_ret
   exact ⟨by first | rfl | (simp; done) | (simp [*]; done), by repeat (first | exact Drawn0.refl _ | apply Drawn0.step)⟩
  ·rw [if_neg c4] at H
   have c4b0 : (a0 == 9) = false := beq_eq_false_iff_ne.mpr c4
   have c4b1 : (a0 != 9) = true := bne_iff_ne.mpr c4
   by_cases c5 : a1 = 1
   ·rw [if_pos c5] at H
    have c5b0 : (a1 == 1) = true := beq_iff_eq.mpr c5
    have c5b1 : (a1 != 1) = false := bne_eq_false_iff_eq.mpr c5
    clear c5
    obtain rfl := Option.some.inj H
    go_enter Try.func46, Try.ntmps46
    go_wp2
    go_ret
    exact ⟨by first | rfl | (simp; done) | (simp [*]; done), by repeat (first | exact Drawn0.refl _ | apply Drawn0.step)⟩
   ·rw [if_neg c5] at H
    have c5b0 : (a1 == 1) = false := beq_eq_false_iff_ne.mpr c5
    have c5b1 : (a1 != 1) = true := bne_iff_ne.mpr c5
    by_cases c6 : a1 = 3
    ·rw [if_pos c6] at H
     have c6b0 : (a1 == 3) = true := beq_iff_eq.mpr c6
     have c6b1 : (a1 != 3) = false := bne_eq_false_iff_eq.mpr c6
     clear c6
     obtain rfl := Option.some.inj H
     go_enter Try.func46, Try.ntmps46
     go_wp2
     go_ret
     exact ⟨by first | rfl | (simp; done) | (simp [*]; done), by repeat (first | exact Drawn0.refl _ | apply Drawn0.step)⟩
    ·rw [if_neg c6] at H
     have c6b0 : (a1 == 3) = false := beq_eq_false_iff_ne.mpr c6
     have c6b1 : (a1 != 3) = true := bne_iff_ne.mpr c6
     by_cases c7 : a1 = 4
     ·rw [if_pos c7] at H
      have c7b0 : (a1 == 4) = true := beq_iff_eq.mpr c7
      have c7b1 : (a1 != 4) = false := bne_eq_false_iff_eq.mpr c7
      clear c7
      obtain rfl := Option.some.inj H
      go_enter Try.func46, Try.ntmps46
      go_wp2
      go_ret
      exact ⟨by first | rfl | (simp; done) | (simp [*]; done), by repeat (first | exact Drawn0.refl _ | apply Drawn0.step)⟩
     ·rw [if_neg c7] at H
      have c7b0 : (a1 == 4) = false := beq_eq_false_iff_ne.mpr c7
      have c7b1 : (a1 != 4) = true := bne_iff_ne.mpr c7
      by_cases c8 : a1 = 5
      ·rw [if_pos c8] at H
       have c8b0 : (a1 == 5) = true := beq_iff_eq.mpr c8
       have c8b1 : (a1 != 5) = false := bne_eq_false_iff_eq.mpr c8
       clear c8
       obtain rfl := Option.some.inj H
       go_enter Try.func46, Try.ntmps46
       go_wp2
       go_ret
       exact ⟨by first | rfl | (simp; done) | (simp [*]; done), by repeat (first | exact Drawn0.refl _ | apply Drawn0.step)⟩
      ·rw [if_neg c8] at H
       have c8b0 : (a1 == 5) = false := beq_eq_false_iff_ne.mpr c8
       have c8b1 : (a1 != 5) = true := bne_iff_ne.mpr c8
       by_cases c9 : a1 = 6
       ·rw [if_pos c9] at H
        have c9b0 : (a1 == 6) = true := beq_iff_eq.mpr c9
        have c9b1 : (a1 != 6) = false := bne_eq_false_iff_eq.mpr c9
        clear c9
        obtain rfl := Option.some.inj H
        go_enter Try.func46, Try.ntmps46
        go_wp2
        go_ret
        exact ⟨by first | rfl | (simp; done) | (simp [*]; done), by repeat (first | exact Drawn0.refl _ | apply Drawn0.step)⟩
       ·rw [if_neg c9] at H
        have c9b0 : (a1 == 6) = false := beq_eq_false_iff_ne.mpr c9
        have c9b1 : (a1 != 6) = true := bne_iff_ne.mpr c9
        obtain rfl := Option.some.inj H
        go_enter Try.func46, Try.ntmps46
        go_wp2
        go_ret
        exact ⟨by first | rfl | (simp; done) | (simp [*]; done), by repeat (first | exact Drawn0.refl _ | apply Drawn0.step)⟩
end Go.Proofs.Ytpafhhgoldenoaa.P
end
section
namespace Go.Proofs.Ytpafhhgoldenoaa.P
open Go.RowKit Go.Proofs.YtpafhhgoldenoaaW.PrintWords Go.Proofs.YtpafhhgoldenoaaW.PrintLast Go.Proofs.YtpafhhgoldenoaaW.PrintMore
attribute [local go_sem] max2_int min2_int max_two min_two max_three min_three max_four min_four
set_option linter.unusedVariables false
set_option linter.unusedSimpArgs false
def formeref10_depths.l0 : Nat → List (S24) → List Int → Int → Option (List Int × Bool)
 | 0, _, _, _ => none
 | k + 1, x0, x4, x5 => if x5 < (x0.length : Int) then (if x5 = 0 then (if x4.length < 17592186044416 then (if 0 < (x0.length : Int) then (if ((rd_T24 x0 0).f1) = 0 then (if ((rd_T24 x0 0).f2) = 1 then (formeref10_depths.l0 k x0 (x4 ++ [1]) (wrap64 (x5 + 1))) else (some (([] : List Int), false))) else (some (([] : List Int), false))) else (none)) else (none)) else (if 0 ≤ x5 then (if x5 ≤ (x0.length : Int) then ((formeref10_Index.f k (x0.take (x5 : Int).toNat) ((rd_T24 x0 x5).f1)).bind fun t236 => (if t236 < 0 then (some (([] : List Int), false)) else (if 0 ≤ t236 then (if t236 < (x0.length : Int) then ((formeref10_Stands.f ((rd_T24 x0 x5).f2) ((rd_T24 x0 t236).f2)).bind fun t239 => (if t239 = true then (if t236 < (x4.length : Int) then (if x4.length < 17592186044416 then (formeref10_depths.l0 k x0 (x4 ++ [wrap64 ((rd x4 t236) + 1)]) (wrap64 (x5 + 1))) else (none)) else (none)) else (some (([] : List Int), false)))) else (none)) else (none)))) else (none)) else (none))) else (some (x4, true))
def formeref10_depths.f (k : Nat) (l0 : List (S24)) : Option (List Int × Bool) := formeref10_depths.l0 k l0 ([] : List Int) 0
theorem formeref10_depths.mono_l : ∀ k, (∀ y0 y1 y2, LeO (formeref10_depths.l0 k y0 y1 y2) (formeref10_depths.l0 (k + 1) y0 y1 y2))
 | 0 => fun _ _ _ r h => by simp [formeref10_depths.l0] at h
 | k + 1 => by
  have ih0 := formeref10_depths.mono_l k
  ·intro y0 y1 y2
   unfold formeref10_depths.l0
   repeat' first
   | (with_reducible exact ih0 _ _ _)
   | (with_reducible exact formeref10_Index.mono _ _ _)
   | (with_reducible exact LeO.refl _)
   | (with_reducible exact LeO.none _)
   | (with_reducible refine LeO.ite ?_ ?_)
   | (with_reducible refine LeO.bind ?_ (fun _ => ?_))
   | exact ih0 _ _ _
   | exact formeref10_Index.mono _ _ _
   | exact LeO.none _
   | refine LeO.ite ?_ ?_
   | refine LeO.bind ?_ (fun _ => ?_)
theorem formeref10_depths.mono : ∀ a0 k, LeO (formeref10_depths.f k a0) (formeref10_depths.f (k + 1) a0) := by
 intro a0 k
 have ih0 := formeref10_depths.mono_l k
 unfold formeref10_depths.f
 repeat' first
   | (with_reducible exact ih0 _ _ _)
   | (with_reducible exact formeref10_Index.mono _ _ _)
   | (with_reducible exact LeO.refl _)
   | (with_reducible exact LeO.none _)
   | (with_reducible refine LeO.ite ?_ ?_)
   | (with_reducible refine LeO.bind ?_ (fun _ => ?_))
   | exact ih0 _ _ _
   | exact formeref10_Index.mono _ _ _
   | exact LeO.none _
   | refine LeO.ite ?_ ?_
   | refine LeO.bind ?_ (fun _ => ?_)
set_option maxHeartbeats 8000000 in
set_option maxRecDepth 100000 in
theorem formeref10_depths.calls (k : Nat) (A0 : Option Addr) (c0 : Nat) (l0 : List (S24)) (r1 : List Int) (r2 : Bool) (w : World) (hr0 : Kd.C k24 w A0 l0.length l0) (hc0 : l0.length ≤ c0) (h : formeref10_depths.f k l0 = some (r1, r2)) :
  Calls Try.prog 36 #[.slice A0 l0.length c0] w fun e w' => ∃ v0_ : Value, e = .returned (.tuple #[v0_, .bool r2]) ∧ Kd.R (Kd.int .i64) 3 w' w.heap.size (fun _ => True) v0_ r1 ∧ Below w.heap.size w w' := by
 have HR0 := Aside0.mk hr0
 have HC0 := Aside0.mk hc0
 clear hr0 hc0
 have HB := Aside0.mk (Below.refl w.heap.size w)
 have H : (formeref10_depths.l0 k l0 ([] : List Int) 0) = some (r1, r2) := h
 clear h
 have H' := Aside0.mk H
 clear H
 go_enter Try.func36, Try.ntmps36
 go_wp2
 repeat (go_quiet (fail); try go_wp2)
 go_loopg [4, 5] k (fun kq v4 v5 w' => ∃ (x4_1 : List Int) (x5_1 : Int), v5 = .int .i64 x5_1 ∧ Aside0 (formeref10_depths.l0 kq l0 x4_1 x5_1 = some (r1, r2)) ∧ Aside0 (kq ≤ k) ∧ Aside0 (Kd.R (Kd.int .i64) 3 w' w.heap.size (fun _ => True) v4 x4_1) ∧ Aside0 (Below w.heap.size w w'))
 case atStart => exact ⟨(([] : List Int)), (0), (by first | rfl | (simp; done) | (simp [*]; done)), H', ⟨Nat.le_refl _⟩, ⟨by first | exact Kd.R_nil _ _ _ _ _ | exact Kd.N_nil _ _ _ _ _ | exact Kd.V_nil _ _ _ _ _ | exact Kd.Q_nil _ _ _ _ _ | exact Kd.S_nil _ _ _ _ _⟩, ⟨by repeat (first | (with_reducible first | exact HB.out | apply below_alloc | apply pw_below_drewN | apply below_drew1) | exact HB.out)⟩⟩
 case round =>
  clear H'
  obtain ⟨x4_1, x5_1, rfl, HA, HK1, HO_4, HB⟩ := hrel
  cases gk with
  | zero => exact absurd HA.out (by simp [formeref10_depths.l0])
  | succ k1 =>
   have H := HA.out
   clear HA
   simp only [formeref10_depths.l0] at H
   by_cases c2 : x5_1 < (l0.length : Int)
   ·rw [if_pos c2] at H
    have c2b0 : decide (x5_1 < (l0.length : Int)) = true := decide_eq_true c2
    clear c2
    by_cases c3 : x5_1 = 0
    ·rw [if_pos c3] at H
     have c3b0 : (x5_1 == 0) = true := beq_iff_eq.mpr c3
     have c3b1 : (x5_1 != 0) = false := bne_eq_false_iff_eq.mpr c3
     clear c3
     by_cases c4 : x4_1.length < 17592186044416
     rotate_left
     ·rw [if_neg c4] at H; exact absurd H (by simp)
     rw [if_pos c4] at H
     have LMc4 := Aside0.mk c4
     clear c4
     obtain ⟨y226, hy226⟩ : ∃ y_ : List Int, y_ = (x4_1 ++ [1]) := ⟨_, rfl⟩
     replace H : (if 0 < (l0.length : Int) then (if ((rd_T24 l0 0).f1) = 0 then (if ((rd_T24 l0 0).f2) = 1 then (formeref10_depths.l0 k1 l0 y226 (wrap64 (x5_1 + 1))) else (some (([] : List Int), false))) else (some (([] : List Int), false))) else (none)) = some (r1, r2) := by first | (rw [hy226]; with_reducible exact H) | (have H2_ := (Option.bind_some _ _).symm.trans H; rw [hy226]; with_reducible exact H2_) | (have H2_ := (Option.bind_some _ _).symm.trans H; with_reducible exact H2_) | with_reducible exact H | (rw [hy226]; exact H) | exact H
     have Ny226 := Aside0.mk hy226
     clear hy226
     by_cases c5 : 0 < (l0.length : Int)
     rotate_left
     ·rw [if_neg c5] at H; exact absurd H (by simp)
     rw [if_pos c5] at H
     have c5b0 : decide (0 < (l0.length : Int)) = true := decide_eq_true c5
     have c5b1 : decide (0 < l0.length) = true := decide_eq_true (by omega)
     clear c5
     by_cases c6 : ((rd_T24 l0 0).f1) = 0
     ·rw [if_pos c6] at H
      have c6b0 : (((rd_T24 l0 0).f1) == 0) = true := beq_iff_eq.mpr c6
      have c6b1 : (((rd_T24 l0 0).f1) != 0) = false := bne_eq_false_iff_eq.mpr c6
      clear c6
      by_cases c7 : ((rd_T24 l0 0).f2) = 1
      ·rw [if_pos c7] at H
       have c7b0 : (((rd_T24 l0 0).f2) == 1) = true := beq_iff_eq.mpr c7
       have c7b1 : (((rd_T24 l0 0).f2) != 1) = false := bne_eq_false_iff_eq.mpr c7
       clear c7
       have H' := Aside0.mk H
       clear H
       go_wp2_with (first | ((with_reducible refine gate_builtin (b := .append) (xs := #[.tmp 15, .tmp 16]) rfl ?_); at_builtin; refine Kd.R_append (Kd.int .i64) (w0 := w) w.heap.size rfl (.tmp 15) (.tmp 16) 30 3 (.int .i64 0) 8 rfl Try.underlying30 info3 rfl (by decide) (by omega) u4 x4_1 1 [.int .i64 1] (fun _ => True) (fun _ => False) rfl rfl ?aP (fun _ hk => hk.elim) ?aF ?aO ?aB ?aS ?aL ?_; (case aP => exact rfl); (case aB => exact (by repeat (first | (with_reducible first | exact HB.out | apply below_alloc | apply pw_below_drewN | apply below_drew1) | exact HB.out))); (case aF => exact (fun _ _ => trivial)); (case aO => exact (by (with_reducible repeat (first | apply Kd.R_alloc | apply Kd.R_drewN | apply Kd.R_drew)); exact HO_4.out)); (case aS => exact (below_size (by repeat (first | (with_reducible first | exact HB.out | apply below_alloc | apply pw_below_drewN | apply below_drew1) | exact HB.out)))); (case aL => have := LMc4.out; omega); intro v227 w8 ho hb hg hat; rw [← Ny226.out] at ho; have n0_ := Aside0.mk (hb); have n1_ := Aside0.mk (ho); clear HB; clear HO_4; have HB := n0_; have HO228 := n1_; clear n0_ n1_; clear ho hb hg hat; have p229 : 0 ≤ (0 : Int) := (by omega); have q229 : 0 < (l0.length : Int) := of_decide_eq_true (by first | (with_reducible assumption) | assumption); obtain ⟨ad229, e229, hx229_0, hx229_1, hx229_2, hx229_3, hx229_4⟩ := at_T24 HR0.out 0 p229 q229; cases e229; have qi229 : (0 < l0.length) = True := eq_true (by omega); (try rw [show ((0 : Int)).toNat = 0 from rfl] at hx229_0); (try rw [show 0 * 5 = 0 from rfl] at hx229_0); (try rw [Addr.add_zero'] at hx229_0); (try rw [show ((0 : Int)).toNat = 0 from rfl] at hx229_1); (try rw [show 0 * 5 = 0 from rfl] at hx229_1); (try rw [Addr.add_zero'] at hx229_1); (try rw [show ((0 : Int)).toNat = 0 from rfl] at hx229_2); (try rw [show 0 * 5 = 0 from rfl] at hx229_2); (try rw [Addr.add_zero'] at hx229_2); (try rw [show ((0 : Int)).toNat = 0 from rfl] at hx229_3); (try rw [show 0 * 5 = 0 from rfl] at hx229_3); (try rw [Addr.add_zero'] at hx229_3); (try rw [show ((0 : Int)).toNat = 0 from rfl] at hx229_4); (try rw [show 0 * 5 = 0 from rfl] at hx229_4); (try rw [Addr.add_zero'] at hx229_4); replace hx229_0 := (HB.out.cell (World.block_lt_of_cell? w _ hx229_0)).trans hx229_0; replace hx229_1 := (HB.out.cell (World.block_lt_of_cell? w _ hx229_1)).trans hx229_1; replace hx229_2 := (HB.out.cell (World.block_lt_of_cell? w _ hx229_2)).trans hx229_2; replace hx229_3 := (HB.out.cell (World.block_lt_of_cell? w _ hx229_3)).trans hx229_3; replace hx229_4 := (HB.out.cell (World.block_lt_of_cell? w _ hx229_4)).trans hx229_4; replace p229 := eq_true p229; replace q229 := eq_true q229; have p230 : 0 ≤ (0 : Int) := (by omega); have q230 : 0 < (l0.length : Int) := of_decide_eq_true (by first | (with_reducible assumption) | assumption); obtain ⟨ad230, e230, hx230_0, hx230_1, hx230_2, hx230_3, hx230_4⟩ := at_T24 HR0.out 0 p230 q230; obtain rfl : ad229 = ad230 := (by injection e230); have qi230 : (0 < l0.length) = True := eq_true (by omega); (try rw [show ((0 : Int)).toNat = 0 from rfl] at hx230_0); (try rw [show 0 * 5 = 0 from rfl] at hx230_0); (try rw [Addr.add_zero'] at hx230_0); (try rw [show ((0 : Int)).toNat = 0 from rfl] at hx230_1); (try rw [show 0 * 5 = 0 from rfl] at hx230_1); (try rw [Addr.add_zero'] at hx230_1); (try rw [show ((0 : Int)).toNat = 0 from rfl] at hx230_2); (try rw [show 0 * 5 = 0 from rfl] at hx230_2); (try rw [Addr.add_zero'] at hx230_2); (try rw [show ((0 : Int)).toNat = 0 from rfl] at hx230_3); (try rw [show 0 * 5 = 0 from rfl] at hx230_3); (try rw [Addr.add_zero'] at hx230_3); (try rw [show ((0 : Int)).toNat = 0 from rfl] at hx230_4); (try rw [show 0 * 5 = 0 from rfl] at hx230_4); (try rw [Addr.add_zero'] at hx230_4); replace hx230_0 := (HB.out.cell (World.block_lt_of_cell? w _ hx230_0)).trans hx230_0; replace hx230_1 := (HB.out.cell (World.block_lt_of_cell? w _ hx230_1)).trans hx230_1; replace hx230_2 := (HB.out.cell (World.block_lt_of_cell? w _ hx230_2)).trans hx230_2; replace hx230_3 := (HB.out.cell (World.block_lt_of_cell? w _ hx230_3)).trans hx230_3; replace hx230_4 := (HB.out.cell (World.block_lt_of_cell? w _ hx230_4)).trans hx230_4; replace p230 := eq_true p230; replace q230 := eq_true q230))
       repeat (go_quiet (first | ((with_reducible refine gate_builtin (b := .append) (xs := #[.tmp 15, .tmp 16]) rfl ?_); at_builtin; refine Kd.R_append (Kd.int .i64) (w0 := w) w.heap.size rfl (.tmp 15) (.tmp 16) 30 3 (.int .i64 0) 8 rfl Try.underlying30 info3 rfl (by decide) (by omega) u4 x4_1 1 [.int .i64 1] (fun _ => True) (fun _ => False) rfl rfl ?aP (fun _ hk => hk.elim) ?aF ?aO ?aB ?aS ?aL ?_; (case aP => exact rfl); (case aB => exact (by repeat (first | (with_reducible first | exact HB.out | apply below_alloc | apply pw_below_drewN | apply below_drew1) | exact HB.out))); (case aF => exact (fun _ _ => trivial)); (case aO => exact (by (with_reducible repeat (first | apply Kd.R_alloc | apply Kd.R_drewN | apply Kd.R_drew)); exact HO_4.out)); (case aS => exact (below_size (by repeat (first | (with_reducible first | exact HB.out | apply below_alloc | apply pw_below_drewN | apply below_drew1) | exact HB.out)))); (case aL => have := LMc4.out; omega); intro v227 w8 ho hb hg hat; rw [← Ny226.out] at ho; have n0_ := Aside0.mk (hb); have n1_ := Aside0.mk (ho); clear HB; clear HO_4; have HB := n0_; have HO228 := n1_; clear n0_ n1_; clear ho hb hg hat; have p229 : 0 ≤ (0 : Int) := (by omega); have q229 : 0 < (l0.length : Int) := of_decide_eq_true (by first | (with_reducible assumption) | assumption); obtain ⟨ad229, e229, hx229_0, hx229_1, hx229_2, hx229_3, hx229_4⟩ := at_T24 HR0.out 0 p229 q229; cases e229; have qi229 : (0 < l0.length) = True := eq_true (by omega); (try rw [show ((0 : Int)).toNat = 0 from rfl] at hx229_0); (try rw [show 0 * 5 = 0 from rfl] at hx229_0); (try rw [Addr.add_zero'] at hx229_0); (try rw [show ((0 : Int)).toNat = 0 from rfl] at hx229_1); (try rw [show 0 * 5 = 0 from rfl] at hx229_1); (try rw [Addr.add_zero'] at hx229_1); (try rw [show ((0 : Int)).toNat = 0 from rfl] at hx229_2); (try rw [show 0 * 5 = 0 from rfl] at hx229_2); (try rw [Addr.add_zero'] at hx229_2); (try rw [show ((0 : Int)).toNat = 0 from rfl] at hx229_3); (try rw [show 0 * 5 = 0 from rfl] at hx229_3); (try rw [Addr.add_zero'] at hx229_3); (try rw [show ((0 : Int)).toNat = 0 from rfl] at hx229_4); (try rw [show 0 * 5 = 0 from rfl] at hx229_4); (try rw [Addr.add_zero'] at hx229_4); replace hx229_0 := (HB.out.cell (World.block_lt_of_cell? w _ hx229_0)).trans hx229_0; replace hx229_1 := (HB.out.cell (World.block_lt_of_cell? w _ hx229_1)).trans hx229_1; replace hx229_2 := (HB.out.cell (World.block_lt_of_cell? w _ hx229_2)).trans hx229_2; replace hx229_3 := (HB.out.cell (World.block_lt_of_cell? w _ hx229_3)).trans hx229_3; replace hx229_4 := (HB.out.cell (World.block_lt_of_cell? w _ hx229_4)).trans hx229_4; replace p229 := eq_true p229; replace q229 := eq_true q229; have p230 : 0 ≤ (0 : Int) := (by omega); have q230 : 0 < (l0.length : Int) := of_decide_eq_true (by first | (with_reducible assumption) | assumption); obtain ⟨ad230, e230, hx230_0, hx230_1, hx230_2, hx230_3, hx230_4⟩ := at_T24 HR0.out 0 p230 q230; obtain rfl : ad229 = ad230 := (by injection e230); have qi230 : (0 < l0.length) = True := eq_true (by omega); (try rw [show ((0 : Int)).toNat = 0 from rfl] at hx230_0); (try rw [show 0 * 5 = 0 from rfl] at hx230_0); (try rw [Addr.add_zero'] at hx230_0); (try rw [show ((0 : Int)).toNat = 0 from rfl] at hx230_1); (try rw [show 0 * 5 = 0 from rfl] at hx230_1); (try rw [Addr.add_zero'] at hx230_1); (try rw [show ((0 : Int)).toNat = 0 from rfl] at hx230_2); (try rw [show 0 * 5 = 0 from rfl] at hx230_2); (try rw [Addr.add_zero'] at hx230_2); (try rw [show ((0 : Int)).toNat = 0 from rfl] at hx230_3); (try rw [show 0 * 5 = 0 from rfl] at hx230_3); (try rw [Addr.add_zero'] at hx230_3); (try rw [show ((0 : Int)).toNat = 0 from rfl] at hx230_4); (try rw [show 0 * 5 = 0 from rfl] at hx230_4); (try rw [Addr.add_zero'] at hx230_4); replace hx230_0 := (HB.out.cell (World.block_lt_of_cell? w _ hx230_0)).trans hx230_0; replace hx230_1 := (HB.out.cell (World.block_lt_of_cell? w _ hx230_1)).trans hx230_1; replace hx230_2 := (HB.out.cell (World.block_lt_of_cell? w _ hx230_2)).trans hx230_2; replace hx230_3 := (HB.out.cell (World.block_lt_of_cell? w _ hx230_3)).trans hx230_3; replace hx230_4 := (HB.out.cell (World.block_lt_of_cell? w _ hx230_4)).trans hx230_4; replace p230 := eq_true p230; replace q230 := eq_true q230)); try go_wp2_with (first | ((with_reducible refine gate_builtin (b := .append) (xs := #[.tmp 15, .tmp 16]) rfl ?_); at_builtin; refine Kd.R_append (Kd.int .i64) (w0 := w) w.heap.size rfl (.tmp 15) (.tmp 16) 30 3 (.int .i64 0) 8 rfl Try.underlying30 info3 rfl (by decide) (by omega) u4 x4_1 1 [.int .i64 1] (fun _ => True) (fun _ => False) rfl rfl ?aP (fun _ hk => hk.elim) ?aF ?aO ?aB ?aS ?aL ?_; (case aP => exact rfl); (case aB => exact (by repeat (first | (with_reducible first | exact HB.out | apply below_alloc | apply pw_below_drewN | apply below_drew1) | exact HB.out))); (case aF => exact (fun _ _ => trivial)); (case aO => exact (by (with_reducible repeat (first | apply Kd.R_alloc | apply Kd.R_drewN | apply Kd.R_drew)); exact HO_4.out)); (case aS => exact (below_size (by repeat (first | (with_reducible first | exact HB.out | apply below_alloc | apply pw_below_drewN | apply below_drew1) | exact HB.out)))); (case aL => have := LMc4.out; omega); intro v227 w8 ho hb hg hat; rw [← Ny226.out] at ho; have n0_ := Aside0.mk (hb); have n1_ := Aside0.mk (ho); clear HB; clear HO_4; have HB := n0_; have HO228 := n1_; clear n0_ n1_; clear ho hb hg hat; have p229 : 0 ≤ (0 : Int) := (by omega); have q229 : 0 < (l0.length : Int) := of_decide_eq_true (by first | (with_reducible assumption) | assumption); obtain ⟨ad229, e229, hx229_0, hx229_1, hx229_2, hx229_3, hx229_4⟩ := at_T24 HR0.out 0 p229 q229; cases e229; have qi229 : (0 < l0.length) = True := eq_true (by omega); (try rw [show ((0 : Int)).toNat = 0 from rfl] at hx229_0); (try rw [show 0 * 5 = 0 from rfl] at hx229_0); (try rw [Addr.add_zero'] at hx229_0); (try rw [show ((0 : Int)).toNat = 0 from rfl] at hx229_1); (try rw [show 0 * 5 = 0 from rfl] at hx229_1); (try rw [Addr.add_zero'] at hx229_1); (try rw [show ((0 : Int)).toNat = 0 from rfl] at hx229_2); (try rw [show 0 * 5 = 0 from rfl] at hx229_2); (try rw [Addr.add_zero'] at hx229_2); (try rw [show ((0 : Int)).toNat = 0 from rfl] at hx229_3); (try rw [show 0 * 5 = 0 from rfl] at hx229_3); (try rw [Addr.add_zero'] at hx229_3); (try rw [show ((0 : Int)).toNat = 0 from rfl] at hx229_4); (try rw [show 0 * 5 = 0 from rfl] at hx229_4); (try rw [Addr.add_zero'] at hx229_4); replace hx229_0 := (HB.out.cell (World.block_lt_of_cell? w _ hx229_0)).trans hx229_0; replace hx229_1 := (HB.out.cell (World.block_lt_of_cell? w _ hx229_1)).trans hx229_1; replace hx229_2 := (HB.out.cell (World.block_lt_of_cell? w _ hx229_2)).trans hx229_2; replace hx229_3 := (HB.out.cell (World.block_lt_of_cell? w _ hx229_3)).trans hx229_3; replace hx229_4 := (HB.out.cell (World.block_lt_of_cell? w _ hx229_4)).trans hx229_4; replace p229 := eq_true p229; replace q229 := eq_true q229; have p230 : 0 ≤ (0 : Int) := (by omega); have q230 : 0 < (l0.length : Int) := of_decide_eq_true (by first | (with_reducible assumption) | assumption); obtain ⟨ad230, e230, hx230_0, hx230_1, hx230_2, hx230_3, hx230_4⟩ := at_T24 HR0.out 0 p230 q230; obtain rfl : ad229 = ad230 := (by injection e230); have qi230 : (0 < l0.length) = True := eq_true (by omega); (try rw [show ((0 : Int)).toNat = 0 from rfl] at hx230_0); (try rw [show 0 * 5 = 0 from rfl] at hx230_0); (try rw [Addr.add_zero'] at hx230_0); (try rw [show ((0 : Int)).toNat = 0 from rfl] at hx230_1); (try rw [show 0 * 5 = 0 from rfl] at hx230_1); (try rw [Addr.add_zero'] at hx230_1); (try rw [show ((0 : Int)).toNat = 0 from rfl] at hx230_2); (try rw [show 0 * 5 = 0 from rfl] at hx230_2); (try rw [Addr.add_zero'] at hx230_2); (try rw [show ((0 : Int)).toNat = 0 from rfl] at hx230_3); (try rw [show 0 * 5 = 0 from rfl] at hx230_3); (try rw [Addr.add_zero'] at hx230_3); (try rw [show ((0 : Int)).toNat = 0 from rfl] at hx230_4); (try rw [show 0 * 5 = 0 from rfl] at hx230_4); (try rw [Addr.add_zero'] at hx230_4); replace hx230_0 := (HB.out.cell (World.block_lt_of_cell? w _ hx230_0)).trans hx230_0; replace hx230_1 := (HB.out.cell (World.block_lt_of_cell? w _ hx230_1)).trans hx230_1; replace hx230_2 := (HB.out.cell (World.block_lt_of_cell? w _ hx230_2)).trans hx230_2; replace hx230_3 := (HB.out.cell (World.block_lt_of_cell? w _ hx230_3)).trans hx230_3; replace hx230_4 := (HB.out.cell (World.block_lt_of_cell? w _ hx230_4)).trans hx230_4; replace p230 := eq_true p230; replace q230 := eq_true q230)))
       go_roundg k1
       case measure => have := HK1.out; omega
       case rel => exact ⟨(y226), (wrap64 (x5_1 + 1)), (by first | rfl | (simp; done) | (simp [*]; done)), H', ⟨by have := HK1.out; omega⟩, ⟨by (with_reducible repeat (first | apply Kd.R_alloc | apply Kd.R_drewN | apply Kd.R_drew)); exact HO228.out⟩, ⟨by repeat (first | (with_reducible first | exact HB.out | apply below_alloc | apply pw_below_drewN | apply below_drew1) | exact HB.out)⟩⟩
      ·rw [if_neg c7] at H
       have c7b0 : (((rd_T24 l0 0).f2) == 1) = false := beq_eq_false_iff_ne.mpr c7
       have c7b1 : (((rd_T24 l0 0).f2) != 1) = true := bne_iff_ne.mpr c7
       simp only [Option.some.injEq, Prod.mk.injEq] at H
       obtain ⟨rfl, rfl⟩ := H
       go_wp2_with (first | ((with_reducible refine gate_builtin (b := .append) (xs := #[.tmp 15, .tmp 16]) rfl ?_); at_builtin; refine Kd.R_append (Kd.int .i64) (w0 := w) w.heap.size rfl (.tmp 15) (.tmp 16) 30 3 (.int .i64 0) 8 rfl Try.underlying30 info3 rfl (by decide) (by omega) u4 x4_1 1 [.int .i64 1] (fun _ => True) (fun _ => False) rfl rfl ?aP (fun _ hk => hk.elim) ?aF ?aO ?aB ?aS ?aL ?_; (case aP => exact rfl); (case aB => exact (by repeat (first | (with_reducible first | exact HB.out | apply below_alloc | apply pw_below_drewN | apply below_drew1) | exact HB.out))); (case aF => exact (fun _ _ => trivial)); (case aO => exact (by (with_reducible repeat (first | apply Kd.R_alloc | apply Kd.R_drewN | apply Kd.R_drew)); exact HO_4.out)); (case aS => exact (below_size (by repeat (first | (with_reducible first | exact HB.out | apply below_alloc | apply pw_below_drewN | apply below_drew1) | exact HB.out)))); (case aL => have := LMc4.out; omega); intro v227 w9 ho hb hg hat; rw [← Ny226.out] at ho; have n0_ := Aside0.mk (hb); have n1_ := Aside0.mk (ho); clear HB; clear HO_4; have HB := n0_; have HO228 := n1_; clear n0_ n1_; clear ho hb hg hat; have p229 : 0 ≤ (0 : Int) := (by omega); have q229 : 0 < (l0.length : Int) := of_decide_eq_true (by first | (with_reducible assumption) | assumption); obtain ⟨ad229, e229, hx229_0, hx229_1, hx229_2, hx229_3, hx229_4⟩ := at_T24 HR0.out 0 p229 q229; cases e229; have qi229 : (0 < l0.length) = True := eq_true (by omega); (try rw [show ((0 : Int)).toNat = 0 from rfl] at hx229_0); (try rw [show 0 * 5 = 0 from rfl] at hx229_0); (try rw [Addr.add_zero'] at hx229_0); (try rw [show ((0 : Int)).toNat = 0 from rfl] at hx229_1); (try rw [show 0 * 5 = 0 from rfl] at hx229_1); (try rw [Addr.add_zero'] at hx229_1); (try rw [show ((0 : Int)).toNat = 0 from rfl] at hx229_2); (try rw [show 0 * 5 = 0 from rfl] at hx229_2); (try rw [Addr.add_zero'] at hx229_2); (try rw [show ((0 : Int)).toNat = 0 from rfl] at hx229_3); (try rw [show 0 * 5 = 0 from rfl] at hx229_3); (try rw [Addr.add_zero'] at hx229_3); (try rw [show ((0 : Int)).toNat = 0 from rfl] at hx229_4); (try rw [show 0 * 5 = 0 from rfl] at hx229_4); (try rw [Addr.add_zero'] at hx229_4); replace hx229_0 := (HB.out.cell (World.block_lt_of_cell? w _ hx229_0)).trans hx229_0; replace hx229_1 := (HB.out.cell (World.block_lt_of_cell? w _ hx229_1)).trans hx229_1; replace hx229_2 := (HB.out.cell (World.block_lt_of_cell? w _ hx229_2)).trans hx229_2; replace hx229_3 := (HB.out.cell (World.block_lt_of_cell? w _ hx229_3)).trans hx229_3; replace hx229_4 := (HB.out.cell (World.block_lt_of_cell? w _ hx229_4)).trans hx229_4; replace p229 := eq_true p229; replace q229 := eq_true q229; have p230 : 0 ≤ (0 : Int) := (by omega); have q230 : 0 < (l0.length : Int) := of_decide_eq_true (by first | (with_reducible assumption) | assumption); obtain ⟨ad230, e230, hx230_0, hx230_1, hx230_2, hx230_3, hx230_4⟩ := at_T24 HR0.out 0 p230 q230; obtain rfl : ad229 = ad230 := (by injection e230); have qi230 : (0 < l0.length) = True := eq_true (by omega); (try rw [show ((0 : Int)).toNat = 0 from rfl] at hx230_0); (try rw [show 0 * 5 = 0 from rfl] at hx230_0); (try rw [Addr.add_zero'] at hx230_0); (try rw [show ((0 : Int)).toNat = 0 from rfl] at hx230_1); (try rw [show 0 * 5 = 0 from rfl] at hx230_1); (try rw [Addr.add_zero'] at hx230_1); (try rw [show ((0 : Int)).toNat = 0 from rfl] at hx230_2); (try rw [show 0 * 5 = 0 from rfl] at hx230_2); (try rw [Addr.add_zero'] at hx230_2); (try rw [show ((0 : Int)).toNat = 0 from rfl] at hx230_3); (try rw [show 0 * 5 = 0 from rfl] at hx230_3); (try rw [Addr.add_zero'] at hx230_3); (try rw [show ((0 : Int)).toNat = 0 from rfl] at hx230_4); (try rw [show 0 * 5 = 0 from rfl] at hx230_4); (try rw [Addr.add_zero'] at hx230_4); replace hx230_0 := (HB.out.cell (World.block_lt_of_cell? w _ hx230_0)).trans hx230_0; replace hx230_1 := (HB.out.cell (World.block_lt_of_cell? w _ hx230_1)).trans hx230_1; replace hx230_2 := (HB.out.cell (World.block_lt_of_cell? w _ hx230_2)).trans hx230_2; replace hx230_3 := (HB.out.cell (World.block_lt_of_cell? w _ hx230_3)).trans hx230_3; replace hx230_4 := (HB.out.cell (World.block_lt_of_cell? w _ hx230_4)).trans hx230_4; replace p230 := eq_true p230; replace q230 := eq_true q230))
       repeat (go_quiet (first | ((with_reducible refine gate_builtin (b := .append) (xs := #[.tmp 15, .tmp 16]) rfl ?_); at_builtin; refine Kd.R_append (Kd.int .i64) (w0 := w) w.heap.size rfl (.tmp 15) (.tmp 16) 30 3 (.int .i64 0) 8 rfl Try.underlying30 info3 rfl (by decide) (by omega) u4 x4_1 1 [.int .i64 1] (fun _ => True) (fun _ => False) rfl rfl ?aP (fun _ hk => hk.elim) ?aF ?aO ?aB ?aS ?aL ?_; (case aP => exact rfl); (case aB => exact (by repeat (first | (with_reducible first | exact HB.out | apply below_alloc | apply pw_below_drewN | apply below_drew1) | exact HB.out))); (case aF => exact (fun _ _ => trivial)); (case aO => exact (by (with_reducible repeat (first | apply Kd.R_alloc | apply Kd.R_drewN | apply Kd.R_drew)); exact HO_4.out)); (case aS => exact (below_size (by repeat (first | (with_reducible first | exact HB.out | apply below_alloc | apply pw_below_drewN | apply below_drew1) | exact HB.out)))); (case aL => have := LMc4.out; omega); intro v227 w9 ho hb hg hat; rw [← Ny226.out] at ho; have n0_ := Aside0.mk (hb); have n1_ := Aside0.mk (ho); clear HB; clear HO_4; have HB := n0_; have HO228 := n1_; clear n0_ n1_; clear ho hb hg hat; have p229 : 0 ≤ (0 : Int) := (by omega); have q229 : 0 < (l0.length : Int) := of_decide_eq_true (by first | (with_reducible assumption) | assumption); obtain ⟨ad229, e229, hx229_0, hx229_1, hx229_2, hx229_3, hx229_4⟩ := at_T24 HR0.out 0 p229 q229; cases e229; have qi229 : (0 < l0.length) = True := eq_true (by omega); (try rw [show ((0 : Int)).toNat = 0 from rfl] at hx229_0); (try rw [show 0 * 5 = 0 from rfl] at hx229_0); (try rw [Addr.add_zero'] at hx229_0); (try rw [show ((0 : Int)).toNat = 0 from rfl] at hx229_1); (try rw [show 0 * 5 = 0 from rfl] at hx229_1); (try rw [Addr.add_zero'] at hx229_1); (try rw [show ((0 : Int)).toNat = 0 from rfl] at hx229_2); (try rw [show 0 * 5 = 0 from rfl] at hx229_2); (try rw [Addr.add_zero'] at hx229_2); (try rw [show ((0 : Int)).toNat = 0 from rfl] at hx229_3); (try rw [show 0 * 5 = 0 from rfl] at hx229_3); (try rw [Addr.add_zero'] at hx229_3); (try rw [show ((0 : Int)).toNat = 0 from rfl] at hx229_4); (try rw [show 0 * 5 = 0 from rfl] at hx229_4); (try rw [Addr.add_zero'] at hx229_4); replace hx229_0 := (HB.out.cell (World.block_lt_of_cell? w _ hx229_0)).trans hx229_0; replace hx229_1 := (HB.out.cell (World.block_lt_of_cell? w _ hx229_1)).trans hx229_1; replace hx229_2 := (HB.out.cell (World.block_lt_of_cell? w _ hx229_2)).trans hx229_2; replace hx229_3 := (HB.out.cell (World.block_lt_of_cell? w _ hx229_3)).trans hx229_3; replace hx229_4 := (HB.out.cell (World.block_lt_of_cell? w _ hx229_4)).trans hx229_4; replace p229 := eq_true p229; replace q229 := eq_true q229; have p230 : 0 ≤ (0 : Int) := (by omega); have q230 : 0 < (l0.length : Int) := of_decide_eq_true (by first | (with_reducible assumption) | assumption); obtain ⟨ad230, e230, hx230_0, hx230_1, hx230_2, hx230_3, hx230_4⟩ := at_T24 HR0.out 0 p230 q230; obtain rfl : ad229 = ad230 := (by injection e230); have qi230 : (0 < l0.length) = True := eq_true (by omega); (try rw [show ((0 : Int)).toNat = 0 from rfl] at hx230_0); (try rw [show 0 * 5 = 0 from rfl] at hx230_0); (try rw [Addr.add_zero'] at hx230_0); (try rw [show ((0 : Int)).toNat = 0 from rfl] at hx230_1); (try rw [show 0 * 5 = 0 from rfl] at hx230_1); (try rw [Addr.add_zero'] at hx230_1); (try rw [show ((0 : Int)).toNat = 0 from rfl] at hx230_2); (try rw [show 0 * 5 = 0 from rfl] at hx230_2); (try rw [Addr.add_zero'] at hx230_2); (try rw [show ((0 : Int)).toNat = 0 from rfl] at hx230_3); (try rw [show 0 * 5 = 0 from rfl] at hx230_3); (try rw [Addr.add_zero'] at hx230_3); (try rw [show ((0 : Int)).toNat = 0 from rfl] at hx230_4); (try rw [show 0 * 5 = 0 from rfl] at hx230_4); (try rw [Addr.add_zero'] at hx230_4); replace hx230_0 := (HB.out.cell (World.block_lt_of_cell? w _ hx230_0)).trans hx230_0; replace hx230_1 := (HB.out.cell (World.block_lt_of_cell? w _ hx230_1)).trans hx230_1; replace hx230_2 := (HB.out.cell (World.block_lt_of_cell? w _ hx230_2)).trans hx230_2; replace hx230_3 := (HB.out.cell (World.block_lt_of_cell? w _ hx230_3)).trans hx230_3; replace hx230_4 := (HB.out.cell (World.block_lt_of_cell? w _ hx230_4)).trans hx230_4; replace p230 := eq_true p230; replace q230 := eq_true q230)); try go_wp2_with (first | ((with_reducible refine gate_builtin (b := .append) (xs := #[.tmp 15, .tmp 16]) rfl ?_); at_builtin; refine Kd.R_append (Kd.int .i64) (w0 := w) w.heap.size rfl (.tmp 15) (.tmp 16) 30 3 (.int .i64 0) 8 rfl Try.underlying30 info3 rfl (by decide) (by omega) u4 x4_1 1 [.int .i64 1] (fun _ => True) (fun _ => False) rfl rfl ?aP (fun _ hk => hk.elim) ?aF ?aO ?aB ?aS ?aL ?_; (case aP => exact rfl); (case aB => exact (by repeat (first | (with_reducible first | exact HB.out | apply below_alloc | apply pw_below_drewN | apply below_drew1) | exact HB.out))); (case aF => exact (fun _ _ => trivial)); (case aO => exact (by (with_reducible repeat (first | apply Kd.R_alloc | apply Kd.R_drewN | apply Kd.R_drew)); exact HO_4.out)); (case aS => exact (below_size (by repeat (first | (with_reducible first | exact HB.out | apply below_alloc | apply pw_below_drewN | apply below_drew1) | exact HB.out)))); (case aL => have := LMc4.out; omega); intro v227 w9 ho hb hg hat; rw [← Ny226.out] at ho; have n0_ := Aside0.mk (hb); have n1_ := Aside0.mk (ho); clear HB; clear HO_4; have HB := n0_; have HO228 := n1_; clear n0_ n1_; clear ho hb hg hat; have p229 : 0 ≤ (0 : Int) := (by omega); have q229 : 0 < (l0.length : Int) := of_decide_eq_true (by first | (with_reducible assumption) | assumption); obtain ⟨ad229, e229, hx229_0, hx229_1, hx229_2, hx229_3, hx229_4⟩ := at_T24 HR0.out 0 p229 q229; cases e229; have qi229 : (0 < l0.length) = True := eq_true (by omega); (try rw [show ((0 : Int)).toNat = 0 from rfl] at hx229_0); (try rw [show 0 * 5 = 0 from rfl] at hx229_0); (try rw [Addr.add_zero'] at hx229_0); (try rw [show ((0 : Int)).toNat = 0 from rfl] at hx229_1); (try rw [show 0 * 5 = 0 from rfl] at hx229_1); (try rw [Addr.add_zero'] at hx229_1); (try rw [show ((0 : Int)).toNat = 0 from rfl] at hx229_2); (try rw [show 0 * 5 = 0 from rfl] at hx229_2); (try rw [Addr.add_zero'] at hx229_2); (try rw [show ((0 : Int)).toNat = 0 from rfl] at hx229_3); (try rw [show 0 * 5 = 0 from rfl] at hx229_3); (try rw [Addr.add_zero'] at hx229_3); (try rw [show ((0 : Int)).toNat = 0 from rfl] at hx229_4); (try rw [show 0 * 5 = 0 from rfl] at hx229_4); (try rw [Addr.add_zero'] at hx229_4); replace hx229_0 := (HB.out.cell (World.block_lt_of_cell? w _ hx229_0)).trans hx229_0; replace hx229_1 := (HB.out.cell (World.block_lt_of_cell? w _ hx229_1)).trans hx229_1; replace hx229_2 := (HB.out.cell (World.block_lt_of_cell? w _ hx229_2)).trans hx229_2; replace hx229_3 := (HB.out.cell (World.block_lt_of_cell? w _ hx229_3)).trans hx229_3; replace hx229_4 := (HB.out.cell (World.block_lt_of_cell? w _ hx229_4)).trans hx229_4; replace p229 := eq_true p229; replace q229 := eq_true q229; have p230 : 0 ≤ (0 : Int) := (by omega); have q230 : 0 < (l0.length : Int) := of_decide_eq_true (by first | (with_reducible assumption) | assumption); obtain ⟨ad230, e230, hx230_0, hx230_1, hx230_2, hx230_3, hx230_4⟩ := at_T24 HR0.out 0 p230 q230; obtain rfl : ad229 = ad230 := (by injection e230); have qi230 : (0 < l0.length) = True := eq_true (by omega); (try rw [show ((0 : Int)).toNat = 0 from rfl] at hx230_0); (try rw [show 0 * 5 = 0 from rfl] at hx230_0); (try rw [Addr.add_zero'] at hx230_0); (try rw [show ((0 : Int)).toNat = 0 from rfl] at hx230_1); (try rw [show 0 * 5 = 0 from rfl] at hx230_1); (try rw [Addr.add_zero'] at hx230_1); (try rw [show ((0 : Int)).toNat = 0 from rfl] at hx230_2); (try rw [show 0 * 5 = 0 from rfl] at hx230_2); (try rw [Addr.add_zero'] at hx230_2); (try rw [show ((0 : Int)).toNat = 0 from rfl] at hx230_3); (try rw [show 0 * 5 = 0 from rfl] at hx230_3); (try rw [Addr.add_zero'] at hx230_3); (try rw [show ((0 : Int)).toNat = 0 from rfl] at hx230_4); (try rw [show 0 * 5 = 0 from rfl] at hx230_4); (try rw [Addr.add_zero'] at hx230_4); replace hx230_0 := (HB.out.cell (World.block_lt_of_cell? w _ hx230_0)).trans hx230_0; replace hx230_1 := (HB.out.cell (World.block_lt_of_cell? w _ hx230_1)).trans hx230_1; replace hx230_2 := (HB.out.cell (World.block_lt_of_cell? w _ hx230_2)).trans hx230_2; replace hx230_3 := (HB.out.cell (World.block_lt_of_cell? w _ hx230_3)).trans hx230_3; replace hx230_4 := (HB.out.cell (World.block_lt_of_cell? w _ hx230_4)).trans hx230_4; replace p230 := eq_true p230; replace q230 := eq_true q230)))
       go_ret2
       exact ⟨_, by first | rfl | (simp [errW_none, errW_some] <;> rfl) | (simp [*, errW_none, errW_some] <;> rfl), by first | exact Kd.R_nil _ _ _ _ _ | exact Kd.N_nil _ _ _ _ _ | exact Kd.V_nil _ _ _ _ _ | exact Kd.Q_nil _ _ _ _ _ | exact Kd.S_nil _ _ _ _ _, by repeat (first | (with_reducible first | exact HB.out | apply below_alloc | apply pw_below_drewN | apply below_drew1) | exact HB.out)⟩
     ·rw [if_neg c6] at H
      have c6b0 : (((rd_T24 l0 0).f1) == 0) = false := beq_eq_false_iff_ne.mpr c6
      have c6b1 : (((rd_T24 l0 0).f1) != 0) = true := bne_iff_ne.mpr c6
      simp only [Option.some.injEq, Prod.mk.injEq] at H
      obtain ⟨rfl, rfl⟩ := H
      go_wp2_with (first | ((with_reducible refine gate_builtin (b := .append) (xs := #[.tmp 15, .tmp 16]) rfl ?_); at_builtin; refine Kd.R_append (Kd.int .i64) (w0 := w) w.heap.size rfl (.tmp 15) (.tmp 16) 30 3 (.int .i64 0) 8 rfl Try.underlying30 info3 rfl (by decide) (by omega) u4 x4_1 1 [.int .i64 1] (fun _ => True) (fun _ => False) rfl rfl ?aP (fun _ hk => hk.elim) ?aF ?aO ?aB ?aS ?aL ?_; (case aP => exact rfl); (case aB => exact (by repeat (first | (with_reducible first | exact HB.out | apply below_alloc | apply pw_below_drewN | apply below_drew1) | exact HB.out))); (case aF => exact (fun _ _ => trivial)); (case aO => exact (by (with_reducible repeat (first | apply Kd.R_alloc | apply Kd.R_drewN | apply Kd.R_drew)); exact HO_4.out)); (case aS => exact (below_size (by repeat (first | (with_reducible first | exact HB.out | apply below_alloc | apply pw_below_drewN | apply below_drew1) | exact HB.out)))); (case aL => have := LMc4.out; omega); intro v227 w10 ho hb hg hat; rw [← Ny226.out] at ho; have n0_ := Aside0.mk (hb); have n1_ := Aside0.mk (ho); clear HB; clear HO_4; have HB := n0_; have HO228 := n1_; clear n0_ n1_; clear ho hb hg hat; have p229 : 0 ≤ (0 : Int) := (by omega); have q229 : 0 < (l0.length : Int) := of_decide_eq_true (by first | (with_reducible assumption) | assumption); obtain ⟨ad229, e229, hx229_0, hx229_1, hx229_2, hx229_3, hx229_4⟩ := at_T24 HR0.out 0 p229 q229; cases e229; have qi229 : (0 < l0.length) = True := eq_true (by omega); (try rw [show ((0 : Int)).toNat = 0 from rfl] at hx229_0); (try rw [show 0 * 5 = 0 from rfl] at hx229_0); (try rw [Addr.add_zero'] at hx229_0); (try rw [show ((0 : Int)).toNat = 0 from rfl] at hx229_1); (try rw [show 0 * 5 = 0 from rfl] at hx229_1); (try rw [Addr.add_zero'] at hx229_1); (try rw [show ((0 : Int)).toNat = 0 from rfl] at hx229_2); (try rw [show 0 * 5 = 0 from rfl] at hx229_2); (try rw [Addr.add_zero'] at hx229_2); (try rw [show ((0 : Int)).toNat = 0 from rfl] at hx229_3); (try rw [show 0 * 5 = 0 from rfl] at hx229_3); (try rw [Addr.add_zero'] at hx229_3); (try rw [show ((0 : Int)).toNat = 0 from rfl] at hx229_4); (try rw [show 0 * 5 = 0 from rfl] at hx229_4); (try rw [Addr.add_zero'] at hx229_4); replace hx229_0 := (HB.out.cell (World.block_lt_of_cell? w _ hx229_0)).trans hx229_0; replace hx229_1 := (HB.out.cell (World.block_lt_of_cell? w _ hx229_1)).trans hx229_1; replace hx229_2 := (HB.out.cell (World.block_lt_of_cell? w _ hx229_2)).trans hx229_2; replace hx229_3 := (HB.out.cell (World.block_lt_of_cell? w _ hx229_3)).trans hx229_3; replace hx229_4 := (HB.out.cell (World.block_lt_of_cell? w _ hx229_4)).trans hx229_4; replace p229 := eq_true p229; replace q229 := eq_true q229))
      repeat (go_quiet (first | ((with_reducible refine gate_builtin (b := .append) (xs := #[.tmp 15, .tmp 16]) rfl ?_); at_builtin; refine Kd.R_append (Kd.int .i64) (w0 := w) w.heap.size rfl (.tmp 15) (.tmp 16) 30 3 (.int .i64 0) 8 rfl Try.underlying30 info3 rfl (by decide) (by omega) u4 x4_1 1 [.int .i64 1] (fun _ => True) (fun _ => False) rfl rfl ?aP (fun _ hk => hk.elim) ?aF ?aO ?aB ?aS ?aL ?_; (case aP => exact rfl); (case aB => exact (by repeat (first | (with_reducible first | exact HB.out | apply below_alloc | apply pw_below_drewN | apply below_drew1) | exact HB.out))); (case aF => exact (fun _ _ => trivial)); (case aO => exact (by (with_reducible repeat (first | apply Kd.R_alloc | apply Kd.R_drewN | apply Kd.R_drew)); exact HO_4.out)); (case aS => exact (below_size (by repeat (first | (with_reducible first | exact HB.out | apply below_alloc | apply pw_below_drewN | apply below_drew1) | exact HB.out)))); (case aL => have := LMc4.out; omega); intro v227 w10 ho hb hg hat; rw [← Ny226.out] at ho; have n0_ := Aside0.mk (hb); have n1_ := Aside0.mk (ho); clear HB; clear HO_4; have HB := n0_; have HO228 := n1_; clear n0_ n1_; clear ho hb hg hat; have p229 : 0 ≤ (0 : Int) := (by omega); have q229 : 0 < (l0.length : Int) := of_decide_eq_true (by first | (with_reducible assumption) | assumption); obtain ⟨ad229, e229, hx229_0, hx229_1, hx229_2, hx229_3, hx229_4⟩ := at_T24 HR0.out 0 p229 q229; cases e229; have qi229 : (0 < l0.length) = True := eq_true (by omega); (try rw [show ((0 : Int)).toNat = 0 from rfl] at hx229_0); (try rw [show 0 * 5 = 0 from rfl] at hx229_0); (try rw [Addr.add_zero'] at hx229_0); (try rw [show ((0 : Int)).toNat = 0 from rfl] at hx229_1); (try rw [show 0 * 5 = 0 from rfl] at hx229_1); (try rw [Addr.add_zero'] at hx229_1); (try rw [show ((0 : Int)).toNat = 0 from rfl] at hx229_2); (try rw [show 0 * 5 = 0 from rfl] at hx229_2); (try rw [Addr.add_zero'] at hx229_2); (try rw [show ((0 : Int)).toNat = 0 from rfl] at hx229_3); (try rw [show 0 * 5 = 0 from rfl] at hx229_3); (try rw [Addr.add_zero'] at hx229_3); (try rw [show ((0 : Int)).toNat = 0 from rfl] at hx229_4); (try rw [show 0 * 5 = 0 from rfl] at hx229_4); (try rw [Addr.add_zero'] at hx229_4); replace hx229_0 := (HB.out.cell (World.block_lt_of_cell? w _ hx229_0)).trans hx229_0; replace hx229_1 := (HB.out.cell (World.block_lt_of_cell? w _ hx229_1)).trans hx229_1; replace hx229_2 := (HB.out.cell (World.block_lt_of_cell? w _ hx229_2)).trans hx229_2; replace hx229_3 := (HB.out.cell (World.block_lt_of_cell? w _ hx229_3)).trans hx229_3; replace hx229_4 := (HB.out.cell (World.block_lt_of_cell? w _ hx229_4)).trans hx229_4; replace p229 := eq_true p229; replace q229 := eq_true q229)); try go_wp2_with (first | ((with_reducible refine gate_builtin (b := .append) (xs := #[.tmp 15, .tmp 16]) rfl ?_); at_builtin; refine Kd.R_append (Kd.int .i64) (w0 := w) w.heap.size rfl (.tmp 15) (.tmp 16) 30 3 (.int .i64 0) 8 rfl Try.underlying30 info3 rfl (by decide) (by omega) u4 x4_1 1 [.int .i64 1] (fun _ => True) (fun _ => False) rfl rfl ?aP (fun _ hk => hk.elim) ?aF ?aO ?aB ?aS ?aL ?_; (case aP => exact rfl); (case aB => exact (by repeat (first | (with_reducible first | exact HB.out | apply below_alloc | apply pw_below_drewN | apply below_drew1) | exact HB.out))); (case aF => exact (fun _ _ => trivial)); (case aO => exact (by (with_reducible repeat (first | apply Kd.R_alloc | apply Kd.R_drewN | apply Kd.R_drew)); exact HO_4.out)); (case aS => exact (below_size (by repeat (first | (with_reducible first | exact HB.out | apply below_alloc | apply pw_below_drewN | apply below_drew1) | exact HB.out)))); (case aL => have := LMc4.out; omega); intro v227 w10 ho hb hg hat; rw [← Ny226.out] at ho; have n0_ := Aside0.mk (hb); have n1_ := Aside0.mk (ho); clear HB; clear HO_4; have HB := n0_; have HO228 := n1_; clear n0_ n1_; clear ho hb hg hat; have p229 : 0 ≤ (0 : Int) := (by omega); have q229 : 0 < (l0.length : Int) := of_decide_eq_true (by first | (with_reducible assumption) | assumption); obtain ⟨ad229, e229, hx229_0, hx229_1, hx229_2, hx229_3, hx229_4⟩ := at_T24 HR0.out 0 p229 q229; cases e229; have qi229 : (0 < l0.length) = True := eq_true (by omega); (try rw [show ((0 : Int)).toNat = 0 from rfl] at hx229_0); (try rw [show 0 * 5 = 0 from rfl] at hx229_0); (try rw [Addr.add_zero'] at hx229_0); (try rw [show ((0 : Int)).toNat = 0 from rfl] at hx229_1); (try rw [show 0 * 5 = 0 from rfl] at hx229_1); (try rw [Addr.add_zero'] at hx229_1); (try rw [show ((0 : Int)).toNat = 0 from rfl] at hx229_2); (try rw [show 0 * 5 = 0 from rfl] at hx229_2); (try rw [Addr.add_zero'] at hx229_2); (try rw [show ((0 : Int)).toNat = 0 from rfl] at hx229_3); (try rw [show 0 * 5 = 0 from rfl] at hx229_3); (try rw [Addr.add_zero'] at hx229_3); (try rw [show ((0 : Int)).toNat = 0 from rfl] at hx229_4); (try rw [show 0 * 5 = 0 from rfl] at hx229_4); (try rw [Addr.add_zero'] at hx229_4); replace hx229_0 := (HB.out.cell (World.block_lt_of_cell? w _ hx229_0)).trans hx229_0; replace hx229_1 := (HB.out.cell (World.block_lt_of_cell? w _ hx229_1)).trans hx229_1; replace hx229_2 := (HB.out.cell (World.block_lt_of_cell? w _ hx229_2)).trans hx229_2; replace hx229_3 := (HB.out.cell (World.block_lt_of_cell? w _ hx229_3)).trans hx229_3; replace hx229_4 := (HB.out.cell (World.block_lt_of_cell? w _ hx229_4)).trans hx229_4; replace p229 := eq_true p229; replace q229 := eq_true q229)))
      go_ret2
      exact ⟨_, by first | rfl | (simp [errW_none, errW_some] <;> rfl) | (simp [*, errW_none, errW_some] <;> rfl), by first | exact Kd.R_nil _ _ _ _ _ | exact Kd.N_nil _ _ _ _ _ | exact Kd.V_nil _ _ _ _ _ | exact Kd.Q_nil _ _ _ _ _ | exact Kd.S_nil _ _ _ _ _, by repeat (first | (with_reducible first | exact HB.out | apply below_alloc | apply pw_below_drewN | apply below_drew1) | exact HB.out)⟩
    ·rw [if_neg c3] at H
     have c3b0 : (x5_1 == 0) = false := beq_eq_false_iff_ne.mpr c3
     have c3b1 : (x5_1 != 0) = true := bne_iff_ne.mpr c3
     by_cases c11 : 0 ≤ x5_1
     rotate_left
     ·rw [if_neg c11] at H; exact absurd H (by simp)
     rw [if_pos c11] at H
     have c11b0 := eq_true c11
     have c11b1 : decide (0 ≤ x5_1) = true := decide_eq_true c11
     clear c11
     by_cases c12 : x5_1 ≤ (l0.length : Int)
     rotate_left
     ·rw [if_neg c12] at H; exact absurd H (by simp)
     rw [if_pos c12] at H
     have c12b0 := eq_true c12
     have c12b1 : decide (x5_1 ≤ (l0.length : Int)) = true := decide_eq_true c12
     clear c12
     obtain ⟨y231, hy231⟩ : ∃ y_ : List (S24), y_ = (l0.take (x5_1 : Int).toNat) := ⟨_, rfl⟩
     replace H : ((formeref10_Index.f k1 y231 ((rd_T24 l0 x5_1).f1)).bind fun t236 => (if t236 < 0 then (some (([] : List Int), false)) else (if 0 ≤ t236 then (if t236 < (l0.length : Int) then ((formeref10_Stands.f ((rd_T24 l0 x5_1).f2) ((rd_T24 l0 t236).f2)).bind fun t239 => (if t239 = true then (if t236 < (x4_1.length : Int) then (if x4_1.length < 17592186044416 then (formeref10_depths.l0 k1 l0 (x4_1 ++ [wrap64 ((rd x4_1 t236) + 1)]) (wrap64 (x5_1 + 1))) else (none)) else (none)) else (some (([] : List Int), false)))) else (none)) else (none)))) = some (r1, r2) := by first | (rw [hy231]; with_reducible exact H) | (have H2_ := (Option.bind_some _ _).symm.trans H; rw [hy231]; with_reducible exact H2_) | (have H2_ := (Option.bind_some _ _).symm.trans H; with_reducible exact H2_) | with_reducible exact H | (rw [hy231]; exact H) | exact H
     have Ny231 := Aside0.mk hy231
     clear hy231
     replace H := Option.bind_eq_some_iff.mp H
     obtain ⟨t236, A130, H⟩ := H
     try dsimp only at H
     have A13 := Aside0.mk A130
     clear A130
     by_cases c14 : t236 < 0
     ·rw [if_pos c14] at H
      have c14b0 : decide (t236 < 0) = true := decide_eq_true c14
      clear c14
      simp only [Option.some.injEq, Prod.mk.injEq] at H
      obtain ⟨rfl, rfl⟩ := H
      have q15 : (x5_1 : Int) ≤ ((l0.length : Int) : Int) := of_decide_eq_true (by first | (with_reducible assumption) | assumption)
      obtain ⟨i015, hi015, _, hsz15, _⟩ := info_parts info24
      have hroom15 : l0.length ≤ c0 := HC0.out
      have hC15 : Kd.C k24 _ A0 l0.length l0 := HR0.out
      have hcut15 := cut_to (P := Try.prog) 22 24 .i64 Try.underlying22 hi015 A0 l0.length c0 x5_1 (of_decide_eq_true (by first | (with_reducible assumption) | assumption)) q15 hroom15
      have hr15 := Kd.C_take (m := (x5_1 : Int).toNat) hC15 (by omega)
      have hy15 : y231.length = (x5_1 : Int).toNat := (by rw [Ny231.out, List.length_take]; omega)
      rw [← Ny231.out] at hr15
      rw [← hy15] at hcut15
      have HR234 := Aside0.mk hr15
      have HC234 := Aside0.mk (show y231.length ≤ c0 from by omega)
      clear hr15 hC15 hroom15 hi015 hsz15
      have KY15 := Aside0.mk hy15
      clear hy15
      replace q15 := eq_true q15
      have p235 : 0 ≤ (x5_1 : Int) := of_decide_eq_true (by first | (with_reducible assumption) | assumption)
      have q235 : x5_1 < (l0.length : Int) := of_decide_eq_true (by first | (with_reducible assumption) | assumption)
      obtain ⟨ad235, e235, hx235_0, hx235_1, hx235_2, hx235_3, hx235_4⟩ := at_T24 HR0.out x5_1 p235 q235
      cases e235
      replace hx235_0 := (HB.out.cell (World.block_lt_of_cell? w _ hx235_0)).trans hx235_0
      replace hx235_1 := (HB.out.cell (World.block_lt_of_cell? w _ hx235_1)).trans hx235_1
      replace hx235_2 := (HB.out.cell (World.block_lt_of_cell? w _ hx235_2)).trans hx235_2
      replace hx235_3 := (HB.out.cell (World.block_lt_of_cell? w _ hx235_3)).trans hx235_3
      replace hx235_4 := (HB.out.cell (World.block_lt_of_cell? w _ hx235_4)).trans hx235_4
      replace p235 := eq_true p235
      replace q235 := eq_true q235
      go_wp2_with (first | (go_at_call 34; (with_reducible refine (formeref10_Index.calls k1 _ _ y231 ((rd_T24 l0 x5_1).f1) t236 _ ?side1 ?side2 A13.out).mono ?_); (case side1 => repeat (first | exact (Kd.C_below HR234.out HB.out) | (with_reducible refine Kd.C_alloc ?_ _) | (with_reducible refine Kd.C_drewN ?_ _) | (with_reducible refine Kd.C_drew ?_))); (case side2 => exact HC234.out); rintro e w' ⟨rfl, ⟨nd, rfl⟩⟩; (try first | exact ⟨rfl, _, World.drewN_drewN _ _ _⟩ | exact ⟨rfl, _, Eq.trans (World.drewN_drewN _ _ _) (congrArg (World.drewN _) (Nat.add_assoc _ _ _))⟩)))
      repeat (go_quiet (first | (go_at_call 34; (with_reducible refine (formeref10_Index.calls k1 _ _ y231 ((rd_T24 l0 x5_1).f1) t236 _ ?side1 ?side2 A13.out).mono ?_); (case side1 => repeat (first | exact (Kd.C_below HR234.out HB.out) | (with_reducible refine Kd.C_alloc ?_ _) | (with_reducible refine Kd.C_drewN ?_ _) | (with_reducible refine Kd.C_drew ?_))); (case side2 => exact HC234.out); rintro e w' ⟨rfl, ⟨nd, rfl⟩⟩; (try first | exact ⟨rfl, _, World.drewN_drewN _ _ _⟩ | exact ⟨rfl, _, Eq.trans (World.drewN_drewN _ _ _) (congrArg (World.drewN _) (Nat.add_assoc _ _ _))⟩))); try go_wp2_with (first | (go_at_call 34; (with_reducible refine (formeref10_Index.calls k1 _ _ y231 ((rd_T24 l0 x5_1).f1) t236 _ ?side1 ?side2 A13.out).mono ?_); (case side1 => repeat (first | exact (Kd.C_below HR234.out HB.out) | (with_reducible refine Kd.C_alloc ?_ _) | (with_reducible refine Kd.C_drewN ?_ _) | (with_reducible refine Kd.C_drew ?_))); (case side2 => exact HC234.out); rintro e w' ⟨rfl, ⟨nd, rfl⟩⟩; (try first | exact ⟨rfl, _, World.drewN_drewN _ _ _⟩ | exact ⟨rfl, _, Eq.trans (World.drewN_drewN _ _ _) (congrArg (World.drewN _) (Nat.add_assoc _ _ _))⟩))))
      go_ret2
      exact ⟨_, by first | rfl | (simp [errW_none, errW_some] <;> rfl) | (simp [*, errW_none, errW_some] <;> rfl), by first | exact Kd.R_nil _ _ _ _ _ | exact Kd.N_nil _ _ _ _ _ | exact Kd.V_nil _ _ _ _ _ | exact Kd.Q_nil _ _ _ _ _ | exact Kd.S_nil _ _ _ _ _, by repeat (first | (with_reducible first | exact HB.out | apply below_alloc | apply pw_below_drewN | apply below_drew1) | exact HB.out)⟩
     ·rw [if_neg c14] at H
      have c14b0 : decide (t236 < 0) = false := decide_eq_false c14
      clear c14
      by_cases c16 : 0 ≤ t236
      rotate_left
      ·rw [if_neg c16] at H; exact absurd H (by simp)
      rw [if_pos c16] at H
      have c16b0 : decide (0 ≤ t236) = true := decide_eq_true c16
      clear c16
      by_cases c17 : t236 < (l0.length : Int)
      rotate_left
      ·rw [if_neg c17] at H; exact absurd H (by simp)
      rw [if_pos c17] at H
      have c17b0 : decide (t236 < (l0.length : Int)) = true := decide_eq_true c17
      clear c17
      replace H := Option.bind_eq_some_iff.mp H
      obtain ⟨t239, A180, H⟩ := H
      try dsimp only at H
      have A18 := Aside0.mk A180
      clear A180
      by_cases c19 : t239 = true
      ·subst c19
       have H1 : (if t236 < (x4_1.length : Int) then (if x4_1.length < 17592186044416 then (formeref10_depths.l0 k1 l0 (x4_1 ++ [wrap64 ((rd x4_1 t236) + 1)]) (wrap64 (x5_1 + 1))) else (none)) else (none)) = some (r1, r2) := by rw [if_pos rfl] at H; exact H
       clear H
       have H := H1
       clear H1
       by_cases c20 : t236 < (x4_1.length : Int)
       rotate_left
       ·rw [if_neg c20] at H; exact absurd H (by simp)
       rw [if_pos c20] at H
       have c20b0 : decide (t236 < (x4_1.length : Int)) = true := decide_eq_true c20
       clear c20
       by_cases c21 : x4_1.length < 17592186044416
       rotate_left
       ·rw [if_neg c21] at H; exact absurd H (by simp)
       rw [if_pos c21] at H
       have LMc21 := Aside0.mk c21
       clear c21
       obtain ⟨y241, hy241⟩ : ∃ y_ : List Int, y_ = (x4_1 ++ [wrap64 ((rd x4_1 t236) + 1)]) := ⟨_, rfl⟩
       replace H : (formeref10_depths.l0 k1 l0 y241 (wrap64 (x5_1 + 1))) = some (r1, r2) := by first | (rw [hy241]; with_reducible exact H) | (have H2_ := (Option.bind_some _ _).symm.trans H; rw [hy241]; with_reducible exact H2_) | (have H2_ := (Option.bind_some _ _).symm.trans H; with_reducible exact H2_) | with_reducible exact H | (rw [hy241]; exact H) | exact H
       have Ny241 := Aside0.mk hy241
       clear hy241
       have H' := Aside0.mk H
       clear H
       have q22 : (x5_1 : Int) ≤ ((l0.length : Int) : Int) := of_decide_eq_true (by first | (with_reducible assumption) | assumption)
       obtain ⟨i022, hi022, _, hsz22, _⟩ := info_parts info24
       have hroom22 : l0.length ≤ c0 := HC0.out
       have hC22 : Kd.C k24 _ A0 l0.length l0 := HR0.out
       have hcut22 := cut_to (P := Try.prog) 22 24 .i64 Try.underlying22 hi022 A0 l0.length c0 x5_1 (of_decide_eq_true (by first | (with_reducible assumption) | assumption)) q22 hroom22
       have hr22 := Kd.C_take (m := (x5_1 : Int).toNat) hC22 (by omega)
       have hy22 : y231.length = (x5_1 : Int).toNat := (by rw [Ny231.out, List.length_take]; omega)
       rw [← Ny231.out] at hr22
       rw [← hy22] at hcut22
       have HR234 := Aside0.mk hr22
       have HC234 := Aside0.mk (show y231.length ≤ c0 from by omega)
       clear hr22 hC22 hroom22 hi022 hsz22
       have KY22 := Aside0.mk hy22
       clear hy22
       replace q22 := eq_true q22
       have p235 : 0 ≤ (x5_1 : Int) := of_decide_eq_true (by first | (with_reducible assumption) | assumption)
       have q235 : x5_1 < (l0.length : Int) := of_decide_eq_true (by first | (with_reducible assumption) | assumption)
       obtain ⟨ad235, e235, hx235_0, hx235_1, hx235_2, hx235_3, hx235_4⟩ := at_T24 HR0.out x5_1 p235 q235
       cases e235
       replace hx235_0 := (HB.out.cell (World.block_lt_of_cell? w _ hx235_0)).trans hx235_0
       replace hx235_1 := (HB.out.cell (World.block_lt_of_cell? w _ hx235_1)).trans hx235_1
       replace hx235_2 := (HB.out.cell (World.block_lt_of_cell? w _ hx235_2)).trans hx235_2
       replace hx235_3 := (HB.out.cell (World.block_lt_of_cell? w _ hx235_3)).trans hx235_3
       replace hx235_4 := (HB.out.cell (World.block_lt_of_cell? w _ hx235_4)).trans hx235_4
       replace p235 := eq_true p235
       replace q235 := eq_true q235
       go_wp2_with (first | (go_at_call 34; (with_reducible refine (formeref10_Index.calls k1 _ _ y231 ((rd_T24 l0 x5_1).f1) t236 _ ?side1 ?side2 A13.out).mono ?_); (case side1 => repeat (first | exact (Kd.C_below HR234.out HB.out) | (with_reducible refine Kd.C_alloc ?_ _) | (with_reducible refine Kd.C_drewN ?_ _) | (with_reducible refine Kd.C_drew ?_))); (case side2 => exact HC234.out); rintro e w' ⟨rfl, ⟨nd, rfl⟩⟩; (try first | exact ⟨rfl, _, World.drewN_drewN _ _ _⟩ | exact ⟨rfl, _, Eq.trans (World.drewN_drewN _ _ _) (congrArg (World.drewN _) (Nat.add_assoc _ _ _))⟩); have p237 : 0 ≤ (x5_1 : Int) := of_decide_eq_true (by first | (with_reducible assumption) | assumption); have q237 : x5_1 < (l0.length : Int) := of_decide_eq_true (by first | (with_reducible assumption) | assumption); obtain ⟨ad237, e237, hx237_0, hx237_1, hx237_2, hx237_3, hx237_4⟩ := at_T24 HR0.out x5_1 p237 q237; obtain rfl : ad235 = ad237 := (by injection e237); replace hx237_0 := (HB.out.cell (World.block_lt_of_cell? w _ hx237_0)).trans hx237_0; replace hx237_1 := (HB.out.cell (World.block_lt_of_cell? w _ hx237_1)).trans hx237_1; replace hx237_2 := (HB.out.cell (World.block_lt_of_cell? w _ hx237_2)).trans hx237_2; replace hx237_3 := (HB.out.cell (World.block_lt_of_cell? w _ hx237_3)).trans hx237_3; replace hx237_4 := (HB.out.cell (World.block_lt_of_cell? w _ hx237_4)).trans hx237_4; replace p237 := eq_true p237; replace q237 := eq_true q237; have p238 : 0 ≤ (t236 : Int) := of_decide_eq_true (by first | (with_reducible assumption) | assumption); have q238 : t236 < (l0.length : Int) := of_decide_eq_true (by first | (with_reducible assumption) | assumption); obtain ⟨ad238, e238, hx238_0, hx238_1, hx238_2, hx238_3, hx238_4⟩ := at_T24 HR0.out t236 p238 q238; obtain rfl : ad235 = ad238 := (by injection e238); replace hx238_0 := (HB.out.cell (World.block_lt_of_cell? w _ hx238_0)).trans hx238_0; replace hx238_1 := (HB.out.cell (World.block_lt_of_cell? w _ hx238_1)).trans hx238_1; replace hx238_2 := (HB.out.cell (World.block_lt_of_cell? w _ hx238_2)).trans hx238_2; replace hx238_3 := (HB.out.cell (World.block_lt_of_cell? w _ hx238_3)).trans hx238_3; replace hx238_4 := (HB.out.cell (World.block_lt_of_cell? w _ hx238_4)).trans hx238_4; replace p238 := eq_true p238; replace q238 := eq_true q238) | (go_at_call 46; (with_reducible refine (formeref10_Stands.calls ((rd_T24 l0 x5_1).f2) ((rd_T24 l0 t236).f2) true _ A18.out).mono ?_); rintro e w' ⟨rfl, ⟨nd, rfl⟩⟩; (try first | exact ⟨rfl, _, World.drewN_drewN _ _ _⟩ | exact ⟨rfl, _, Eq.trans (World.drewN_drewN _ _ _) (congrArg (World.drewN _) (Nat.add_assoc _ _ _))⟩); obtain ⟨Ao23, co23, eo23⟩ := Kd.R_slice HO_4.out; subst eo23; have p240 : 0 ≤ (t236 : Int) := of_decide_eq_true (by first | (with_reducible assumption) | assumption); have q240 : t236 < (x4_1.length : Int) := of_decide_eq_true (by first | (with_reducible assumption) | assumption); obtain ⟨ad240, e240, hx240_0⟩ := Kd.at_int (Kd.R_reads' HO_4.out).2.2 t236 p240 q240; cases e240; replace p240 := eq_true p240; replace q240 := eq_true q240) | ((with_reducible refine gate_builtin (b := .append) (xs := #[.tmp 55, .tmp 61]) rfl ?_); at_builtin; refine Kd.R_append (Kd.int .i64) (w0 := w) w.heap.size rfl (.tmp 55) (.tmp 61) 30 3 (.int .i64 0) 8 rfl Try.underlying30 info3 rfl (by decide) (by omega) (.slice (some ad240) x4_1.length co23) x4_1 (wrap64 ((rd x4_1 t236) + 1)) [.int .i64 (wrap64 ((rd x4_1 t236) + 1))] (fun _ => True) (fun _ => False) rfl rfl ?aP (fun _ hk => hk.elim) ?aF ?aO ?aB ?aS ?aL ?_; (case aP => exact rfl); (case aB => exact (by repeat (first | (with_reducible first | exact HB.out | apply below_alloc | apply pw_below_drewN | apply below_drew1) | exact HB.out))); (case aF => exact (fun _ _ => trivial)); (case aO => exact (by (with_reducible repeat (first | apply Kd.R_alloc | apply Kd.R_drewN | apply Kd.R_drew)); exact HO_4.out)); (case aS => exact (below_size (by repeat (first | (with_reducible first | exact HB.out | apply below_alloc | apply pw_below_drewN | apply below_drew1) | exact HB.out)))); (case aL => have := LMc21.out; omega); intro v242 w24 ho hb hg hat; rw [← Ny241.out] at ho; have n0_ := Aside0.mk (hb); have n1_ := Aside0.mk (ho); clear HB; clear HO_4; have HB := n0_; have HO243 := n1_; clear n0_ n1_; clear ho hb hg hat))
       repeat (go_quiet (first | (go_at_call 34; (with_reducible refine (formeref10_Index.calls k1 _ _ y231 ((rd_T24 l0 x5_1).f1) t236 _ ?side1 ?side2 A13.out).mono ?_); (case side1 => repeat (first | exact (Kd.C_below HR234.out HB.out) | (with_reducible refine Kd.C_alloc ?_ _) | (with_reducible refine Kd.C_drewN ?_ _) | (with_reducible refine Kd.C_drew ?_))); (case side2 => exact HC234.out); rintro e w' ⟨rfl, ⟨nd, rfl⟩⟩; (try first | exact ⟨rfl, _, World.drewN_drewN _ _ _⟩ | exact ⟨rfl, _, Eq.trans (World.drewN_drewN _ _ _) (congrArg (World.drewN _) (Nat.add_assoc _ _ _))⟩); have p237 : 0 ≤ (x5_1 : Int) := of_decide_eq_true (by first | (with_reducible assumption) | assumption); have q237 : x5_1 < (l0.length : Int) := of_decide_eq_true (by first | (with_reducible assumption) | assumption); obtain ⟨ad237, e237, hx237_0, hx237_1, hx237_2, hx237_3, hx237_4⟩ := at_T24 HR0.out x5_1 p237 q237; obtain rfl : ad235 = ad237 := (by injection e237); replace hx237_0 := (HB.out.cell (World.block_lt_of_cell? w _ hx237_0)).trans hx237_0; replace hx237_1 := (HB.out.cell (World.block_lt_of_cell? w _ hx237_1)).trans hx237_1; replace hx237_2 := (HB.out.cell (World.block_lt_of_cell? w _ hx237_2)).trans hx237_2; replace hx237_3 := (HB.out.cell (World.block_lt_of_cell? w _ hx237_3)).trans hx237_3; replace hx237_4 := (HB.out.cell (World.block_lt_of_cell? w _ hx237_4)).trans hx237_4; replace p237 := eq_true p237; replace q237 := eq_true q237; have p238 : 0 ≤ (t236 : Int) := of_decide_eq_true (by first | (with_reducible assumption) | assumption); have q238 : t236 < (l0.length : Int) := of_decide_eq_true (by first | (with_reducible assumption) | assumption); obtain ⟨ad238, e238, hx238_0, hx238_1, hx238_2, hx238_3, hx238_4⟩ := at_T24 HR0.out t236 p238 q238; obtain rfl : ad235 = ad238 := (by injection e238); replace hx238_0 := (HB.out.cell (World.block_lt_of_cell? w _ hx238_0)).trans hx238_0; replace hx238_1 := (HB.out.cell (World.block_lt_of_cell? w _ hx238_1)).trans hx238_1; replace hx238_2 := (HB.out.cell (World.block_lt_of_cell? w _ hx238_2)).trans hx238_2; replace hx238_3 := (HB.out.cell (World.block_lt_of_cell? w _ hx238_3)).trans hx238_3; replace hx238_4 := (HB.out.cell (World.block_lt_of_cell? w _ hx238_4)).trans hx238_4; replace p238 := eq_true p238; replace q238 := eq_true q238) | (go_at_call 46; (with_reducible refine (formeref10_Stands.calls ((rd_T24 l0 x5_1).f2) ((rd_T24 l0 t236).f2) true _ A18.out).mono ?_); rintro e w' ⟨rfl, ⟨nd, rfl⟩⟩; (try first | exact ⟨rfl, _, World.drewN_drewN _ _ _⟩ | exact ⟨rfl, _, Eq.trans (World.drewN_drewN _ _ _) (congrArg (World.drewN _) (Nat.add_assoc _ _ _))⟩); obtain ⟨Ao23, co23, eo23⟩ := Kd.R_slice HO_4.out; subst eo23; have p240 : 0 ≤ (t236 : Int) := of_decide_eq_true (by first | (with_reducible assumption) | assumption); have q240 : t236 < (x4_1.length : Int) := of_decide_eq_true (by first | (with_reducible assumption) | assumption); obtain ⟨ad240, e240, hx240_0⟩ := Kd.at_int (Kd.R_reads' HO_4.out).2.2 t236 p240 q240; cases e240; replace p240 := eq_true p240; replace q240 := eq_true q240) | ((with_reducible refine gate_builtin (b := .append) (xs := #[.tmp 55, .tmp 61]) rfl ?_); at_builtin; refine Kd.R_append (Kd.int .i64) (w0 := w) w.heap.size rfl (.tmp 55) (.tmp 61) 30 3 (.int .i64 0) 8 rfl Try.underlying30 info3 rfl (by decide) (by omega) (.slice (some ad240) x4_1.length co23) x4_1 (wrap64 ((rd x4_1 t236) + 1)) [.int .i64 (wrap64 ((rd x4_1 t236) + 1))] (fun _ => True) (fun _ => False) rfl rfl ?aP (fun _ hk => hk.elim) ?aF ?aO ?aB ?aS ?aL ?_; (case aP => exact rfl); (case aB => exact (by repeat (first | (with_reducible first | exact HB.out | apply below_alloc | apply pw_below_drewN | apply below_drew1) | exact HB.out))); (case aF => exact (fun _ _ => trivial)); (case aO => exact (by (with_reducible repeat (first | apply Kd.R_alloc | apply Kd.R_drewN | apply Kd.R_drew)); exact HO_4.out)); (case aS => exact (below_size (by repeat (first | (with_reducible first | exact HB.out | apply below_alloc | apply pw_below_drewN | apply below_drew1) | exact HB.out)))); (case aL => have := LMc21.out; omega); intro v242 w24 ho hb hg hat; rw [← Ny241.out] at ho; have n0_ := Aside0.mk (hb); have n1_ := Aside0.mk (ho); clear HB; clear HO_4; have HB := n0_; have HO243 := n1_; clear n0_ n1_; clear ho hb hg hat)); try go_wp2_with (first | (go_at_call 34; (with_reducible refine (formeref10_Index.calls k1 _ _ y231 ((rd_T24 l0 x5_1).f1) t236 _ ?side1 ?side2 A13.out).mono ?_); (case side1 => repeat (first | exact (Kd.C_below HR234.out HB.out) | (with_reducible refine Kd.C_alloc ?_ _) | (with_reducible refine Kd.C_drewN ?_ _) | (with_reducible refine Kd.C_drew ?_))); (case side2 => exact HC234.out); rintro e w' ⟨rfl, ⟨nd, rfl⟩⟩; (try first | exact ⟨rfl, _, World.drewN_drewN _ _ _⟩ | exact ⟨rfl, _, Eq.trans (World.drewN_drewN _ _ _) (congrArg (World.drewN _) (Nat.add_assoc _ _ _))⟩); have p237 : 0 ≤ (x5_1 : Int) := of_decide_eq_true (by first | (with_reducible assumption) | assumption); have q237 : x5_1 < (l0.length : Int) := of_decide_eq_true (by first | (with_reducible assumption) | assumption); obtain ⟨ad237, e237, hx237_0, hx237_1, hx237_2, hx237_3, hx237_4⟩ := at_T24 HR0.out x5_1 p237 q237; obtain rfl : ad235 = ad237 := (by injection e237); replace hx237_0 := (HB.out.cell (World.block_lt_of_cell? w _ hx237_0)).trans hx237_0; replace hx237_1 := (HB.out.cell (World.block_lt_of_cell? w _ hx237_1)).trans hx237_1; replace hx237_2 := (HB.out.cell (World.block_lt_of_cell? w _ hx237_2)).trans hx237_2; replace hx237_3 := (HB.out.cell (World.block_lt_of_cell? w _ hx237_3)).trans hx237_3; replace hx237_4 := (HB.out.cell (World.block_lt_of_cell? w _ hx237_4)).trans hx237_4; replace p237 := eq_true p237; replace q237 := eq_true q237; have p238 : 0 ≤ (t236 : Int) := of_decide_eq_true (by first | (with_reducible assumption) | assumption); have q238 : t236 < (l0.length : Int) := of_decide_eq_true (by first | (with_reducible assumption) | assumption); obtain ⟨ad238, e238, hx238_0, hx238_1, hx238_2, hx238_3, hx238_4⟩ := at_T24 HR0.out t236 p238 q238; obtain rfl : ad235 = ad238 := (by injection e238); replace hx238_0 := (HB.out.cell (World.block_lt_of_cell? w _ hx238_0)).trans hx238_0; replace hx238_1 := (HB.out.cell (World.block_lt_of_cell? w _ hx238_1)).trans hx238_1; replace hx238_2 := (HB.out.cell (World.block_lt_of_cell? w _ hx238_2)).trans hx238_2; replace hx238_3 := (HB.out.cell (World.block_lt_of_cell? w _ hx238_3)).trans hx238_3; replace hx238_4 := (HB.out.cell (World.block_lt_of_cell? w _ hx238_4)).trans hx238_4; replace p238 := eq_true p238; replace q238 := eq_true q238) | (go_at_call 46; (with_reducible refine (formeref10_Stands.calls ((rd_T24 l0 x5_1).f2) ((rd_T24 l0 t236).f2) true _ A18.out).mono ?_); rintro e w' ⟨rfl, ⟨nd, rfl⟩⟩; (try first | exact ⟨rfl, _, World.drewN_drewN _ _ _⟩ | exact ⟨rfl, _, Eq.trans (World.drewN_drewN _ _ _) (congrArg (World.drewN _) (Nat.add_assoc _ _ _))⟩); obtain ⟨Ao23, co23, eo23⟩ := Kd.R_slice HO_4.out; subst eo23; have p240 : 0 ≤ (t236 : Int) := of_decide_eq_true (by first | (with_reducible assumption) | assumption); have q240 : t236 < (x4_1.length : Int) := of_decide_eq_true (by first | (with_reducible assumption) | assumption); obtain ⟨ad240, e240, hx240_0⟩ := Kd.at_int (Kd.R_reads' HO_4.out).2.2 t236 p240 q240; cases e240; replace p240 := eq_true p240; replace q240 := eq_true q240) | ((with_reducible refine gate_builtin (b := .append) (xs := #[.tmp 55, .tmp 61]) rfl ?_); at_builtin; refine Kd.R_append (Kd.int .i64) (w0 := w) w.heap.size rfl (.tmp 55) (.tmp 61) 30 3 (.int .i64 0) 8 rfl Try.underlying30 info3 rfl (by decide) (by omega) (.slice (some ad240) x4_1.length co23) x4_1 (wrap64 ((rd x4_1 t236) + 1)) [.int .i64 (wrap64 ((rd x4_1 t236) + 1))] (fun _ => True) (fun _ => False) rfl rfl ?aP (fun _ hk => hk.elim) ?aF ?aO ?aB ?aS ?aL ?_; (case aP => exact rfl); (case aB => exact (by repeat (first | (with_reducible first | exact HB.out | apply below_alloc | apply pw_below_drewN | apply below_drew1) | exact HB.out))); (case aF => exact (fun _ _ => trivial)); (case aO => exact (by (with_reducible repeat (first | apply Kd.R_alloc | apply Kd.R_drewN | apply Kd.R_drew)); exact HO_4.out)); (case aS => exact (below_size (by repeat (first | (with_reducible first | exact HB.out | apply below_alloc | apply pw_below_drewN | apply below_drew1) | exact HB.out)))); (case aL => have := LMc21.out; omega); intro v242 w24 ho hb hg hat; rw [← Ny241.out] at ho; have n0_ := Aside0.mk (hb); have n1_ := Aside0.mk (ho); clear HB; clear HO_4; have HB := n0_; have HO243 := n1_; clear n0_ n1_; clear ho hb hg hat)))
       go_roundg k1
       case measure => have := HK1.out; omega
       case rel => exact ⟨(y241), (wrap64 (x5_1 + 1)), (by first | rfl | (simp; done) | (simp [*]; done)), H', ⟨by have := HK1.out; omega⟩, ⟨by (with_reducible repeat (first | apply Kd.R_alloc | apply Kd.R_drewN | apply Kd.R_drew)); exact HO243.out⟩, ⟨by repeat (first | (with_reducible first | exact HB.out | apply below_alloc | apply pw_below_drewN | apply below_drew1) | exact HB.out)⟩⟩
      ·replace c19 := Bool.eq_false_iff.mpr c19
       subst c19
       have H1 : (some (([] : List Int), false)) = some (r1, r2) := by rw [if_neg (show ¬ (false = true) by decide)] at H; exact H
       clear H
       have H := H1
       clear H1
       simp only [Option.some.injEq, Prod.mk.injEq] at H
       obtain ⟨rfl, rfl⟩ := H
       have q25 : (x5_1 : Int) ≤ ((l0.length : Int) : Int) := of_decide_eq_true (by first | (with_reducible assumption) | assumption)
       obtain ⟨i025, hi025, _, hsz25, _⟩ := info_parts info24
       have hroom25 : l0.length ≤ c0 := HC0.out
       have hC25 : Kd.C k24 _ A0 l0.length l0 := HR0.out
       have hcut25 := cut_to (P := Try.prog) 22 24 .i64 Try.underlying22 hi025 A0 l0.length c0 x5_1 (of_decide_eq_true (by first | (with_reducible assumption) | assumption)) q25 hroom25
       have hr25 := Kd.C_take (m := (x5_1 : Int).toNat) hC25 (by omega)
       have hy25 : y231.length = (x5_1 : Int).toNat := (by rw [Ny231.out, List.length_take]; omega)
       rw [← Ny231.out] at hr25
       rw [← hy25] at hcut25
       have HR234 := Aside0.mk hr25
       have HC234 := Aside0.mk (show y231.length ≤ c0 from by omega)
       clear hr25 hC25 hroom25 hi025 hsz25
       have KY25 := Aside0.mk hy25
       clear hy25
       replace q25 := eq_true q25
       have p235 : 0 ≤ (x5_1 : Int) := of_decide_eq_true (by first | (with_reducible assumption) | assumption)
       have q235 : x5_1 < (l0.length : Int) := of_decide_eq_true (by first | (with_reducible assumption) | assumption)
       obtain ⟨ad235, e235, hx235_0, hx235_1, hx235_2, hx235_3, hx235_4⟩ := at_T24 HR0.out x5_1 p235 q235
       cases e235
       replace hx235_0 := (HB.out.cell (World.block_lt_of_cell? w _ hx235_0)).trans hx235_0
       replace hx235_1 := (HB.out.cell (World.block_lt_of_cell? w _ hx235_1)).trans hx235_1
       replace hx235_2 := (HB.out.cell (World.block_lt_of_cell? w _ hx235_2)).trans hx235_2
       replace hx235_3 := (HB.out.cell (World.block_lt_of_cell? w _ hx235_3)).trans hx235_3
       replace hx235_4 := (HB.out.cell (World.block_lt_of_cell? w _ hx235_4)).trans hx235_4
       replace p235 := eq_true p235
       replace q235 := eq_true q235
       go_wp2_with (first | (go_at_call 34; (with_reducible refine (formeref10_Index.calls k1 _ _ y231 ((rd_T24 l0 x5_1).f1) t236 _ ?side1 ?side2 A13.out).mono ?_); (case side1 => repeat (first | exact (Kd.C_below HR234.out HB.out) | (with_reducible refine Kd.C_alloc ?_ _) | (with_reducible refine Kd.C_drewN ?_ _) | (with_reducible refine Kd.C_drew ?_))); (case side2 => exact HC234.out); rintro e w' ⟨rfl, ⟨nd, rfl⟩⟩; (try first | exact ⟨rfl, _, World.drewN_drewN _ _ _⟩ | exact ⟨rfl, _, Eq.trans (World.drewN_drewN _ _ _) (congrArg (World.drewN _) (Nat.add_assoc _ _ _))⟩); have p237 : 0 ≤ (x5_1 : Int) := of_decide_eq_true (by first | (with_reducible assumption) | assumption); have q237 : x5_1 < (l0.length : Int) := of_decide_eq_true (by first | (with_reducible assumption) | assumption); obtain ⟨ad237, e237, hx237_0, hx237_1, hx237_2, hx237_3, hx237_4⟩ := at_T24 HR0.out x5_1 p237 q237; obtain rfl : ad235 = ad237 := (by injection e237); replace hx237_0 := (HB.out.cell (World.block_lt_of_cell? w _ hx237_0)).trans hx237_0; replace hx237_1 := (HB.out.cell (World.block_lt_of_cell? w _ hx237_1)).trans hx237_1; replace hx237_2 := (HB.out.cell (World.block_lt_of_cell? w _ hx237_2)).trans hx237_2; replace hx237_3 := (HB.out.cell (World.block_lt_of_cell? w _ hx237_3)).trans hx237_3; replace hx237_4 := (HB.out.cell (World.block_lt_of_cell? w _ hx237_4)).trans hx237_4; replace p237 := eq_true p237; replace q237 := eq_true q237; have p238 : 0 ≤ (t236 : Int) := of_decide_eq_true (by first | (with_reducible assumption) | assumption); have q238 : t236 < (l0.length : Int) := of_decide_eq_true (by first | (with_reducible assumption) | assumption); obtain ⟨ad238, e238, hx238_0, hx238_1, hx238_2, hx238_3, hx238_4⟩ := at_T24 HR0.out t236 p238 q238; obtain rfl : ad235 = ad238 := (by injection e238); replace hx238_0 := (HB.out.cell (World.block_lt_of_cell? w _ hx238_0)).trans hx238_0; replace hx238_1 := (HB.out.cell (World.block_lt_of_cell? w _ hx238_1)).trans hx238_1; replace hx238_2 := (HB.out.cell (World.block_lt_of_cell? w _ hx238_2)).trans hx238_2; replace hx238_3 := (HB.out.cell (World.block_lt_of_cell? w _ hx238_3)).trans hx238_3; replace hx238_4 := (HB.out.cell (World.block_lt_of_cell? w _ hx238_4)).trans hx238_4; replace p238 := eq_true p238; replace q238 := eq_true q238) | (go_at_call 46; (with_reducible refine (formeref10_Stands.calls ((rd_T24 l0 x5_1).f2) ((rd_T24 l0 t236).f2) false _ A18.out).mono ?_); rintro e w' ⟨rfl, ⟨nd, rfl⟩⟩; (try first | exact ⟨rfl, _, World.drewN_drewN _ _ _⟩ | exact ⟨rfl, _, Eq.trans (World.drewN_drewN _ _ _) (congrArg (World.drewN _) (Nat.add_assoc _ _ _))⟩)))
       repeat (go_quiet (first | (go_at_call 34; (with_reducible refine (formeref10_Index.calls k1 _ _ y231 ((rd_T24 l0 x5_1).f1) t236 _ ?side1 ?side2 A13.out).mono ?_); (case side1 => repeat (first | exact (Kd.C_below HR234.out HB.out) | (with_reducible refine Kd.C_alloc ?_ _) | (with_reducible refine Kd.C_drewN ?_ _) | (with_reducible refine Kd.C_drew ?_))); (case side2 => exact HC234.out); rintro e w' ⟨rfl, ⟨nd, rfl⟩⟩; (try first | exact ⟨rfl, _, World.drewN_drewN _ _ _⟩ | exact ⟨rfl, _, Eq.trans (World.drewN_drewN _ _ _) (congrArg (World.drewN _) (Nat.add_assoc _ _ _))⟩); have p237 : 0 ≤ (x5_1 : Int) := of_decide_eq_true (by first | (with_reducible assumption) | assumption); have q237 : x5_1 < (l0.length : Int) := of_decide_eq_true (by first | (with_reducible assumption) | assumption); obtain ⟨ad237, e237, hx237_0, hx237_1, hx237_2, hx237_3, hx237_4⟩ := at_T24 HR0.out x5_1 p237 q237; obtain rfl : ad235 = ad237 := (by injection e237); replace hx237_0 := (HB.out.cell (World.block_lt_of_cell? w _ hx237_0)).trans hx237_0; replace hx237_1 := (HB.out.cell (World.block_lt_of_cell? w _ hx237_1)).trans hx237_1; replace hx237_2 := (HB.out.cell (World.block_lt_of_cell? w _ hx237_2)).trans hx237_2; replace hx237_3 := (HB.out.cell (World.block_lt_of_cell? w _ hx237_3)).trans hx237_3; replace hx237_4 := (HB.out.cell (World.block_lt_of_cell? w _ hx237_4)).trans hx237_4; replace p237 := eq_true p237; replace q237 := eq_true q237; have p238 : 0 ≤ (t236 : Int) := of_decide_eq_true (by first | (with_reducible assumption) | assumption); have q238 : t236 < (l0.length : Int) := of_decide_eq_true (by first | (with_reducible assumption) | assumption); obtain ⟨ad238, e238, hx238_0, hx238_1, hx238_2, hx238_3, hx238_4⟩ := at_T24 HR0.out t236 p238 q238; obtain rfl : ad235 = ad238 := (by injection e238); replace hx238_0 := (HB.out.cell (World.block_lt_of_cell? w _ hx238_0)).trans hx238_0; replace hx238_1 := (HB.out.cell (World.block_lt_of_cell? w _ hx238_1)).trans hx238_1; replace hx238_2 := (HB.out.cell (World.block_lt_of_cell? w _ hx238_2)).trans hx238_2; replace hx238_3 := (HB.out.cell (World.block_lt_of_cell? w _ hx238_3)).trans hx238_3; replace hx238_4 := (HB.out.cell (World.block_lt_of_cell? w _ hx238_4)).trans hx238_4; replace p238 := eq_true p238; replace q238 := eq_true q238) | (go_at_call 46; (with_reducible refine (formeref10_Stands.calls ((rd_T24 l0 x5_1).f2) ((rd_T24 l0 t236).f2) false _ A18.out).mono ?_); rintro e w' ⟨rfl, ⟨nd, rfl⟩⟩; (try first | exact ⟨rfl, _, World.drewN_drewN _ _ _⟩ | exact ⟨rfl, _, Eq.trans (World.drewN_drewN _ _ _) (congrArg (World.drewN _) (Nat.add_assoc _ _ _))⟩))); try go_wp2_with (first | (go_at_call 34; (with_reducible refine (formeref10_Index.calls k1 _ _ y231 ((rd_T24 l0 x5_1).f1) t236 _ ?side1 ?side2 A13.out).mono ?_); (case side1 => repeat (first | exact (Kd.C_below HR234.out HB.out) | (with_reducible refine Kd.C_alloc ?_ _) | (with_reducible refine Kd.C_drewN ?_ _) | (with_reducible refine Kd.C_drew ?_))); (case side2 => exact HC234.out); rintro e w' ⟨rfl, ⟨nd, rfl⟩⟩; (try first | exact ⟨rfl, _, World.drewN_drewN _ _ _⟩ | exact ⟨rfl, _, Eq.trans (World.drewN_drewN _ _ _) (congrArg (World.drewN _) (Nat.add_assoc _ _ _))⟩); have p237 : 0 ≤ (x5_1 : Int) := of_decide_eq_true (by first | (with_reducible assumption) | assumption); have q237 : x5_1 < (l0.length : Int) := of_decide_eq_true (by first | (with_reducible assumption) | assumption); obtain ⟨ad237, e237, hx237_0, hx237_1, hx237_2, hx237_3, hx237_4⟩ := at_T24 HR0.out x5_1 p237 q237; obtain rfl : ad235 = ad237 := (by injection e237); replace hx237_0 := (HB.out.cell (World.block_lt_of_cell? w _ hx237_0)).trans hx237_0; replace hx237_1 := (HB.out.cell (World.block_lt_of_cell? w _ hx237_1)).trans hx237_1; replace hx237_2 := (HB.out.cell (World.block_lt_of_cell? w _ hx237_2)).trans hx237_2; replace hx237_3 := (HB.out.cell (World.block_lt_of_cell? w _ hx237_3)).trans hx237_3; replace hx237_4 := (HB.out.cell (World.block_lt_of_cell? w _ hx237_4)).trans hx237_4; replace p237 := eq_true p237; replace q237 := eq_true q237; have p238 : 0 ≤ (t236 : Int) := of_decide_eq_true (by first | (with_reducible assumption) | assumption); have q238 : t236 < (l0.length : Int) := of_decide_eq_true (by first | (with_reducible assumption) | assumption); obtain ⟨ad238, e238, hx238_0, hx238_1, hx238_2, hx238_3, hx238_4⟩ := at_T24 HR0.out t236 p238 q238; obtain rfl : ad235 = ad238 := (by injection e238); replace hx238_0 := (HB.out.cell (World.block_lt_of_cell? w _ hx238_0)).trans hx238_0; replace hx238_1 := (HB.out.cell (World.block_lt_of_cell? w _ hx238_1)).trans hx238_1; replace hx238_2 := (HB.out.cell (World.block_lt_of_cell? w _ hx238_2)).trans hx238_2; replace hx238_3 := (HB.out.cell (World.block_lt_of_cell? w _ hx238_3)).trans hx238_3; replace hx238_4 := (HB.out.cell (World.block_lt_of_cell? w _ hx238_4)).trans hx238_4; replace p238 := eq_true p238; replace q238 := eq_true q238) | (go_at_call 46; (with_reducible refine (formeref10_Stands.calls ((rd_T24 l0 x5_1).f2) ((rd_T24 l0 t236).f2) false _ A18.out).mono ?_); rintro e w' ⟨rfl, ⟨nd, rfl⟩⟩; (try first | exact ⟨rfl, _, World.drewN_drewN _ _ _⟩ | exact ⟨rfl, _, Eq.trans (World.drewN_drewN _ _ _) (congrArg (World.drewN _) (Nat.add_assoc _ _ _))⟩))))
       go_ret2
       exact ⟨_, by first | rfl | (simp [errW_none, errW_some] <;> rfl) | (simp [*, errW_none, errW_some] <;> rfl), by first | exact Kd.R_nil _ _ _ _ _ | exact Kd.N_nil _ _ _ _ _ | exact Kd.V_nil _ _ _ _ _ | exact Kd.Q_nil _ _ _ _ _ | exact Kd.S_nil _ _ _ _ _, by repeat (first | (with_reducible first | exact HB.out | apply below_alloc | apply pw_below_drewN | apply below_drew1) | exact HB.out)⟩
   ·rw [if_neg c2] at H
    have c2b0 : decide (x5_1 < (l0.length : Int)) = false := decide_eq_false c2
    clear c2
    simp only [Option.some.injEq, Prod.mk.injEq] at H
    obtain ⟨rfl, rfl⟩ := H
    go_wp2
    repeat (go_quiet (fail); try go_wp2)
    go_ret2
    exact ⟨_, by first | rfl | (simp [errW_none, errW_some] <;> rfl) | (simp [*, errW_none, errW_some] <;> rfl), by (with_reducible repeat (first | apply Kd.R_alloc | apply Kd.R_drewN | apply Kd.R_drew)); exact HO_4.out, by repeat (first | (with_reducible first | exact HB.out | apply below_alloc | apply pw_below_drewN | apply below_drew1) | exact HB.out)⟩
end Go.Proofs.Ytpafhhgoldenoaa.P
end
section
namespace Go.Proofs.Ytpafhhgoldenoaa.P
open Go.RowKit Go.Proofs.YtpafhhgoldenoaaW.PrintWords Go.Proofs.YtpafhhgoldenoaaW.PrintLast Go.Proofs.YtpafhhgoldenoaaW.PrintMore
attribute [local go_sem] max2_int min2_int max_two min_two max_three min_three max_four min_four
set_option linter.unusedVariables false
set_option linter.unusedSimpArgs false
mutual
def formeref10_Valid.j0 : Nat → List (S24) → Bool → Option (Bool)
 | 0, _, _ => none
 | k + 1, x0, x15 => if x15 = true then (some false) else (formeref10_Valid.l0 k x0 0)
def formeref10_Valid.l0 : Nat → List (S24) → Int → Option (Bool)
 | 0, _, _ => none
 | k + 1, x0, x3 => if x3 < (x0.length : Int) then (if 0 ≤ x3 then ((formeref10_Node.f k ((rd_T24 x0 x3).f0) ((rd_T24 x0 x3).f1) ((rd_T24 x0 x3).f2) ((rd_T24 x0 x3).f3) ((rd_T24 x0 x3).f4)).bind fun t245 => (if t245 = true then (if x3 ≤ (x0.length : Int) then ((formeref10_Index.f k (x0.take (x3 : Int).toNat) ((rd_T24 x0 x3).f0)).bind fun t251 => (if t251 ≥ 0 then (some false) else (formeref10_Valid.l0 k x0 (wrap64 (x3 + 1))))) else (none)) else (some false))) else (none)) else ((formeref10_depths.f k x0).bind fun bt252 => (formeref10_Valid.l1 k bt252.1 bt252.2 0))
def formeref10_Valid.l1 : Nat → List Int → Bool → Int → Option (Bool)
 | 0, _, _, _ => none
 | k + 1, x5, x6, x7 => if x7 < (x5.length : Int) then (if 0 ≤ x7 then (if (rd x5 x7) > 30 then (some false) else (formeref10_Valid.l1 k x5 x6 (wrap64 (x7 + 1)))) else (none)) else (some x6)
end
def formeref10_Valid.f (k : Nat) (l0 : List (S24)) : Option (Bool) := if (l0.length : Int) < 1 then (formeref10_Valid.j0 k l0 true) else (formeref10_Valid.j0 k l0 (decide ((l0.length : Int) > 4000)))
theorem formeref10_Valid.mono_l : ∀ k, (∀ y0 y1, LeO (formeref10_Valid.j0 k y0 y1) (formeref10_Valid.j0 (k + 1) y0 y1)) ∧ (∀ y0 y1, LeO (formeref10_Valid.l0 k y0 y1) (formeref10_Valid.l0 (k + 1) y0 y1)) ∧ (∀ y0 y1 y2, LeO (formeref10_Valid.l1 k y0 y1 y2) (formeref10_Valid.l1 (k + 1) y0 y1 y2))
 | 0 => ⟨fun _ _ r h => by simp [formeref10_Valid.j0] at h, fun _ _ r h => by simp [formeref10_Valid.l0] at h, fun _ _ _ r h => by simp [formeref10_Valid.l1] at h⟩
 | k + 1 => by
  obtain ⟨ih0, ih1, ih2⟩ := formeref10_Valid.mono_l k
  refine ⟨?_, ?_, ?_⟩
  ·intro y0 y1
   unfold formeref10_Valid.j0
   repeat' first
   | (with_reducible exact ih0 _ _)
   | (with_reducible exact ih1 _ _)
   | (with_reducible exact ih2 _ _ _)
   | (with_reducible exact formeref10_Index.mono _ _ _)
   | (with_reducible exact formeref10_Node.mono _ _ _ _ _ _)
   | (with_reducible exact formeref10_depths.mono _ _)
   | (with_reducible exact LeO.refl _)
   | (with_reducible exact LeO.none _)
   | (with_reducible refine LeO.ite ?_ ?_)
   | (with_reducible refine LeO.bind ?_ (fun _ => ?_))
   | exact ih0 _ _
   | exact ih1 _ _
   | exact ih2 _ _ _
   | exact formeref10_Index.mono _ _ _
   | exact formeref10_Node.mono _ _ _ _ _ _
   | exact formeref10_depths.mono _ _
   | exact LeO.none _
   | refine LeO.ite ?_ ?_
   | refine LeO.bind ?_ (fun _ => ?_)
  ·intro y0 y1
   unfold formeref10_Valid.l0
   repeat' first
   | (with_reducible exact ih0 _ _)
   | (with_reducible exact ih1 _ _)
   | (with_reducible exact ih2 _ _ _)
   | (with_reducible exact formeref10_Index.mono _ _ _)
   | (with_reducible exact formeref10_Node.mono _ _ _ _ _ _)
   | (with_reducible exact formeref10_depths.mono _ _)
   | (with_reducible exact LeO.refl _)
   | (with_reducible exact LeO.none _)
   | (with_reducible refine LeO.ite ?_ ?_)
   | (with_reducible refine LeO.bind ?_ (fun _ => ?_))
   | exact ih0 _ _
   | exact ih1 _ _
   | exact ih2 _ _ _
   | exact formeref10_Index.mono _ _ _
   | exact formeref10_Node.mono _ _ _ _ _ _
   | exact formeref10_depths.mono _ _
   | exact LeO.none _
   | refine LeO.ite ?_ ?_
   | refine LeO.bind ?_ (fun _ => ?_)
  ·intro y0 y1 y2
   unfold formeref10_Valid.l1
   repeat' first
   | (with_reducible exact ih0 _ _)
   | (with_reducible exact ih1 _ _)
   | (with_reducible exact ih2 _ _ _)
   | (with_reducible exact formeref10_Index.mono _ _ _)
   | (with_reducible exact formeref10_Node.mono _ _ _ _ _ _)
   | (with_reducible exact formeref10_depths.mono _ _)
   | (with_reducible exact LeO.refl _)
   | (with_reducible exact LeO.none _)
   | (with_reducible refine LeO.ite ?_ ?_)
   | (with_reducible refine LeO.bind ?_ (fun _ => ?_))
   | exact ih0 _ _
   | exact ih1 _ _
   | exact ih2 _ _ _
   | exact formeref10_Index.mono _ _ _
   | exact formeref10_Node.mono _ _ _ _ _ _
   | exact formeref10_depths.mono _ _
   | exact LeO.none _
   | refine LeO.ite ?_ ?_
   | refine LeO.bind ?_ (fun _ => ?_)
theorem formeref10_Valid.mono : ∀ a0 k, LeO (formeref10_Valid.f k a0) (formeref10_Valid.f (k + 1) a0) := by
 intro a0 k
 obtain ⟨ih0, ih1, ih2⟩ := formeref10_Valid.mono_l k
 unfold formeref10_Valid.f
 repeat' first
   | (with_reducible exact ih0 _ _)
   | (with_reducible exact ih1 _ _)
   | (with_reducible exact ih2 _ _ _)
   | (with_reducible exact formeref10_Index.mono _ _ _)
   | (with_reducible exact formeref10_Node.mono _ _ _ _ _ _)
   | (with_reducible exact formeref10_depths.mono _ _)
   | (with_reducible exact LeO.refl _)
   | (with_reducible exact LeO.none _)
   | (with_reducible refine LeO.ite ?_ ?_)
   | (with_reducible refine LeO.bind ?_ (fun _ => ?_))
   | exact ih0 _ _
   | exact ih1 _ _
   | exact ih2 _ _ _
   | exact formeref10_Index.mono _ _ _
   | exact formeref10_Node.mono _ _ _ _ _ _
   | exact formeref10_depths.mono _ _
   | exact LeO.none _
   | refine LeO.ite ?_ ?_
   | refine LeO.bind ?_ (fun _ => ?_)
set_option maxHeartbeats 8000000 in
set_option maxRecDepth 100000 in
theorem formeref10_Valid.calls (k : Nat) (A0 : Option Addr) (c0 : Nat) (l0 : List (S24)) (r : Bool) (w : World) (hr0 : Kd.C k24 w A0 l0.length l0) (hc0 : l0.length ≤ c0) (h : formeref10_Valid.f k l0 = some r) :
  Calls Try.prog 14 #[.slice A0 l0.length c0] w fun e w' => e = .returned (.bool r) ∧ Below w.heap.size w w' := by
 have hu24 := Try.underlying24
 have HR0 := Aside0.mk hr0
 have HC0 := Aside0.mk hc0
 clear hr0 hc0
 have HB := Aside0.mk (Below.refl w.heap.size w)
 have H : (if (l0.length : Int) < 1 then (formeref10_Valid.j0 k l0 true) else (formeref10_Valid.j0 k l0 (decide ((l0.length : Int) > 4000)))) = some r := h
 clear h
 have HC2 := Aside0.mk H
 clear H
 go_enter Try.func14, Try.ntmps14
 go_upto_region 1 with (fail)
 repeat (go_quiet (fail); go_upto_region 1 with (fail))
 go_cut [15] (fun v15 wc => ∃ (kq : Nat) (x15_1 : Bool), v15 = .bool x15_1 ∧ Aside0 (formeref10_Valid.j0 kq l0 x15_1 = some r) ∧ Aside0 (kq ≤ k) ∧ Aside0 (Below w.heap.size w wc))
 case first =>
  have H := HC2.out
  clear HC2
  by_cases c3 : (l0.length : Int) < 1
  ·rw [if_pos c3] at H
   have c3b0 : decide ((l0.length : Int) < 1) = true := decide_eq_true c3
   have c3b1 : decide (l0.length < 1) = true := decide_eq_true (by omega)
   clear c3
   (first | rw [c3b0] | (simp only [i64_w, i32_w]; rw [c3b0]) | skip)
   have H' := Aside0.mk H
   clear H
   go_wp2
   repeat (go_quiet (fail); try go_wp2)
   go_meet
   case rel => exact ⟨_, (true), (by first | rfl | (simp; done) | (simp [*]; done)), H', ⟨by first | omega | exact Nat.le_refl _⟩, ⟨by repeat (first | (with_reducible first | exact HB.out | apply below_alloc | apply pw_below_drewN | apply below_drew1) | exact HB.out)⟩⟩
  ·rw [if_neg c3] at H
   have c3b0 : decide ((l0.length : Int) < 1) = false := decide_eq_false c3
   have c3b1 : decide (l0.length < 1) = false := decide_eq_false (by omega)
   clear c3
   (first | rw [c3b0] | (simp only [i64_w, i32_w]; rw [c3b0]) | skip)
   have H' := Aside0.mk H
   clear H
   go_wp2
   repeat (go_quiet (fail); try go_wp2)
   go_meet
   case rel => exact ⟨_, (decide ((l0.length : Int) > 4000)), (by first | rfl | (simp; done) | (simp [*]; done)), H', ⟨by first | omega | exact Nat.le_refl _⟩, ⟨by repeat (first | (with_reducible first | exact HB.out | apply below_alloc | apply pw_below_drewN | apply below_drew1) | exact HB.out)⟩⟩
 case rest =>
  clear HC2
  try clear c1
  try clear p2
  try clear c3
  try clear c3b0
  try clear c3b1
  obtain ⟨kq, x15_1, rfl, HA, HJ1, HB⟩ := hcut
  cases kq with
  | zero => exact absurd HA.out (by simp [formeref10_Valid.j0])
  | succ kj1 =>
   have H := HA.out
   clear HA
   simp only [formeref10_Valid.j0] at H
   by_cases c4 : x15_1 = true
   ·subst c4
    have H1 : (some false) = some r := by rw [if_pos rfl] at H; exact H
    clear H
    have H := H1
    clear H1
    obtain rfl := Option.some.inj H
    go_wp2
    repeat (go_quiet (fail); try go_wp2)
    go_ret
    exact ⟨by first | rfl | (simp [errW_none, errW_some] <;> rfl) | (simp [*, errW_none, errW_some] <;> rfl), by repeat (first | (with_reducible first | exact HB.out | apply below_alloc | apply pw_below_drewN | apply below_drew1) | exact HB.out)⟩
   ·replace c4 := Bool.eq_false_iff.mpr c4
    subst c4
    have H1 : (formeref10_Valid.l0 kj1 l0 0) = some r := by rw [if_neg (show ¬ (false = true) by decide)] at H; exact H
    clear H
    have H := H1
    clear H1
    have H' := Aside0.mk H
    clear H
    go_wp2
    repeat (go_quiet (fail); try go_wp2)
    go_loopg [3] kj1 (fun kq v3 w' => ∃ (x3_2 : Int), v3 = .int .i64 x3_2 ∧ Aside0 (formeref10_Valid.l0 kq l0 x3_2 = some r) ∧ Aside0 (kq ≤ kj1) ∧ Aside0 (Below w.heap.size w w'))
    case atStart => exact ⟨(0), (by first | rfl | (simp; done) | (simp [*]; done)), H', ⟨Nat.le_refl _⟩, ⟨by repeat (first | (with_reducible first | exact HB.out | apply below_alloc | apply pw_below_drewN | apply below_drew1) | exact HB.out)⟩⟩
    case round =>
     clear H'
     try clear c1
     try clear p2
     try clear c3
     try clear c3b0
     try clear c3b1
     try clear c4
     try clear p2
     obtain ⟨x3_2, rfl, HA, HK2, HB⟩ := hrel
     cases gk with
     | zero => exact absurd HA.out (by simp [formeref10_Valid.l0])
     | succ k2 =>
      have H := HA.out
      clear HA
      simp only [formeref10_Valid.l0] at H
      by_cases c5 : x3_2 < (l0.length : Int)
      ·rw [if_pos c5] at H
       have c5b0 : decide (x3_2 < (l0.length : Int)) = true := decide_eq_true c5
       clear c5
       by_cases c6 : 0 ≤ x3_2
       rotate_left
       ·rw [if_neg c6] at H; exact absurd H (by simp)
       rw [if_pos c6] at H
       have c6b0 : decide (0 ≤ x3_2) = true := decide_eq_true c6
       clear c6
       replace H := Option.bind_eq_some_iff.mp H
       obtain ⟨t245, A70, H⟩ := H
       try dsimp only at H
       have A7 := Aside0.mk A70
       clear A70
       by_cases c8 : t245 = true
       ·subst c8
        have H1 : (if x3_2 ≤ (l0.length : Int) then ((formeref10_Index.f k2 (l0.take (x3_2 : Int).toNat) ((rd_T24 l0 x3_2).f0)).bind fun t251 => (if t251 ≥ 0 then (some false) else (formeref10_Valid.l0 k2 l0 (wrap64 (x3_2 + 1))))) else (none)) = some r := by rw [if_pos rfl] at H; exact H
        clear H
        have H := H1
        clear H1
        have c9b0 := eq_true (of_decide_eq_true (by first | (with_reducible assumption) | assumption) : 0 ≤ x3_2)
        by_cases c10 : x3_2 ≤ (l0.length : Int)
        rotate_left
        ·rw [if_neg c10] at H; exact absurd H (by simp)
        rw [if_pos c10] at H
        have c10b0 := eq_true c10
        have c10b1 : decide (x3_2 ≤ (l0.length : Int)) = true := decide_eq_true c10
        clear c10
        obtain ⟨y246, hy246⟩ : ∃ y_ : List (S24), y_ = (l0.take (x3_2 : Int).toNat) := ⟨_, rfl⟩
        replace H : ((formeref10_Index.f k2 y246 ((rd_T24 l0 x3_2).f0)).bind fun t251 => (if t251 ≥ 0 then (some false) else (formeref10_Valid.l0 k2 l0 (wrap64 (x3_2 + 1))))) = some r := by first | (rw [hy246]; with_reducible exact H) | (have H2_ := (Option.bind_some _ _).symm.trans H; rw [hy246]; with_reducible exact H2_) | (have H2_ := (Option.bind_some _ _).symm.trans H; with_reducible exact H2_) | with_reducible exact H | (rw [hy246]; exact H) | exact H
        have Ny246 := Aside0.mk hy246
        clear hy246
        replace H := Option.bind_eq_some_iff.mp H
        obtain ⟨t251, A110, H⟩ := H
        try dsimp only at H
        have A11 := Aside0.mk A110
        clear A110
        by_cases c12 : t251 ≥ 0
        ·rw [if_pos c12] at H
         have c12b0 : decide (0 ≤ t251) = true := decide_eq_true c12
         clear c12
         obtain rfl := Option.some.inj H
         have p244 : 0 ≤ (x3_2 : Int) := of_decide_eq_true (by first | (with_reducible assumption) | assumption)
         have q244 : x3_2 < (l0.length : Int) := of_decide_eq_true (by first | (with_reducible assumption) | assumption)
         obtain ⟨ad244, e244, hx244_0, hx244_1, hx244_2, hx244_3, hx244_4⟩ := at_T24 HR0.out x3_2 p244 q244
         cases e244
         replace hx244_0 := (HB.out.cell (World.block_lt_of_cell? w _ hx244_0)).trans hx244_0
         replace hx244_1 := (HB.out.cell (World.block_lt_of_cell? w _ hx244_1)).trans hx244_1
         replace hx244_2 := (HB.out.cell (World.block_lt_of_cell? w _ hx244_2)).trans hx244_2
         replace hx244_3 := (HB.out.cell (World.block_lt_of_cell? w _ hx244_3)).trans hx244_3
         replace hx244_4 := (HB.out.cell (World.block_lt_of_cell? w _ hx244_4)).trans hx244_4
         replace p244 := eq_true p244
         replace q244 := eq_true q244
         go_wp2_with (first | (go_at_call 35; (with_reducible refine (formeref10_Node.calls k2 ((rd_T24 l0 x3_2).f0) ((rd_T24 l0 x3_2).f1) ((rd_T24 l0 x3_2).f2) ((rd_T24 l0 x3_2).f3) ((rd_T24 l0 x3_2).f4) true _ A7.out).mono ?_); rintro e w13 ⟨rfl, hb⟩; have n0_ := Aside0.mk (below_step (by repeat (first | (with_reducible first | exact HB.out | apply below_alloc | apply pw_below_drewN | apply below_drew1) | exact HB.out)) hb); clear HB; have HB := n0_; clear n0_; (try clear hb); (try clear hb2); (try clear hk); (try clear hi); have q14 : (x3_2 : Int) ≤ ((l0.length : Int) : Int) := of_decide_eq_true (by first | (with_reducible assumption) | assumption); obtain ⟨i014, hi014, _, hsz14, _⟩ := info_parts info24; have hroom14 : l0.length ≤ c0 := HC0.out; have hC14 : Kd.C k24 _ (some ad244) l0.length l0 := HR0.out; have hcut14 := cut_to (P := Try.prog) 22 24 .i64 Try.underlying22 hi014 (some ad244) l0.length c0 x3_2 (of_decide_eq_true (by first | (with_reducible assumption) | assumption)) q14 hroom14; have hr14 := Kd.C_take (m := (x3_2 : Int).toNat) hC14 (by omega); have hy14 : y246.length = (x3_2 : Int).toNat := (by rw [Ny246.out, List.length_take]; omega); rw [← Ny246.out] at hr14; rw [← hy14] at hcut14; have HR249 := Aside0.mk hr14; have HC249 := Aside0.mk (show y246.length ≤ c0 from by omega); clear hr14 hC14 hroom14 hi014 hsz14; have KY14 := Aside0.mk hy14; clear hy14; replace q14 := eq_true q14; have p250 : 0 ≤ (x3_2 : Int) := of_decide_eq_true (by first | (with_reducible assumption) | assumption); have q250 : x3_2 < (l0.length : Int) := of_decide_eq_true (by first | (with_reducible assumption) | assumption); obtain ⟨ad250, e250, hx250_0, hx250_1, hx250_2, hx250_3, hx250_4⟩ := at_T24 HR0.out x3_2 p250 q250; obtain rfl : ad244 = ad250 := (by injection e250); replace hx250_0 := (HB.out.cell (World.block_lt_of_cell? w _ hx250_0)).trans hx250_0; replace hx250_1 := (HB.out.cell (World.block_lt_of_cell? w _ hx250_1)).trans hx250_1; replace hx250_2 := (HB.out.cell (World.block_lt_of_cell? w _ hx250_2)).trans hx250_2; replace hx250_3 := (HB.out.cell (World.block_lt_of_cell? w _ hx250_3)).trans hx250_3; replace hx250_4 := (HB.out.cell (World.block_lt_of_cell? w _ hx250_4)).trans hx250_4; replace p250 := eq_true p250; replace q250 := eq_true q250) | (go_at_call 34; (with_reducible refine (formeref10_Index.calls k2 _ _ y246 ((rd_T24 l0 x3_2).f0) t251 _ ?side1 ?side2 A11.out).mono ?_); (case side1 => repeat (first | exact (Kd.C_below HR249.out HB.out) | (with_reducible refine Kd.C_alloc ?_ _) | (with_reducible refine Kd.C_drewN ?_ _) | (with_reducible refine Kd.C_drew ?_))); (case side2 => exact HC249.out); rintro e w' ⟨rfl, ⟨nd, rfl⟩⟩; (try first | exact ⟨rfl, _, World.drewN_drewN _ _ _⟩ | exact ⟨rfl, _, Eq.trans (World.drewN_drewN _ _ _) (congrArg (World.drewN _) (Nat.add_assoc _ _ _))⟩)))
         repeat (go_quiet (first | (go_at_call 35; (with_reducible refine (formeref10_Node.calls k2 ((rd_T24 l0 x3_2).f0) ((rd_T24 l0 x3_2).f1) ((rd_T24 l0 x3_2).f2) ((rd_T24 l0 x3_2).f3) ((rd_T24 l0 x3_2).f4) true _ A7.out).mono ?_); rintro e w13 ⟨rfl, hb⟩; have n0_ := Aside0.mk (below_step (by repeat (first | (with_reducible first | exact HB.out | apply below_alloc | apply pw_below_drewN | apply below_drew1) | exact HB.out)) hb); clear HB; have HB := n0_; clear n0_; (try clear hb); (try clear hb2); (try clear hk); (try clear hi); have q14 : (x3_2 : Int) ≤ ((l0.length : Int) : Int) := of_decide_eq_true (by first | (with_reducible assumption) | assumption); obtain ⟨i014, hi014, _, hsz14, _⟩ := info_parts info24; have hroom14 : l0.length ≤ c0 := HC0.out; have hC14 : Kd.C k24 _ (some ad244) l0.length l0 := HR0.out; have hcut14 := cut_to (P := Try.prog) 22 24 .i64 Try.underlying22 hi014 (some ad244) l0.length c0 x3_2 (of_decide_eq_true (by first | (with_reducible assumption) | assumption)) q14 hroom14; have hr14 := Kd.C_take (m := (x3_2 : Int).toNat) hC14 (by omega); have hy14 : y246.length = (x3_2 : Int).toNat := (by rw [Ny246.out, List.length_take]; omega); rw [← Ny246.out] at hr14; rw [← hy14] at hcut14; have HR249 := Aside0.mk hr14; have HC249 := Aside0.mk (show y246.length ≤ c0 from by omega); clear hr14 hC14 hroom14 hi014 hsz14; have KY14 := Aside0.mk hy14; clear hy14; replace q14 := eq_true q14; have p250 : 0 ≤ (x3_2 : Int) := of_decide_eq_true (by first | (with_reducible assumption) | assumption); have q250 : x3_2 < (l0.length : Int) := of_decide_eq_true (by first | (with_reducible assumption) | assumption); obtain ⟨ad250, e250, hx250_0, hx250_1, hx250_2, hx250_3, hx250_4⟩ := at_T24 HR0.out x3_2 p250 q250; obtain rfl : ad244 = ad250 := (by injection e250); replace hx250_0 := (HB.out.cell (World.block_lt_of_cell? w _ hx250_0)).trans hx250_0; replace hx250_1 := (HB.out.cell (World.block_lt_of_cell? w _ hx250_1)).trans hx250_1; replace hx250_2 := (HB.out.cell (World.block_lt_of_cell? w _ hx250_2)).trans hx250_2; replace hx250_3 := (HB.out.cell (World.block_lt_of_cell? w _ hx250_3)).trans hx250_3; replace hx250_4 := (HB.out.cell (World.block_lt_of_cell? w _ hx250_4)).trans hx250_4; replace p250 := eq_true p250; replace q250 := eq_true q250) | (go_at_call 34; (with_reducible refine (formeref10_Index.calls k2 _ _ y246 ((rd_T24 l0 x3_2).f0) t251 _ ?side1 ?side2 A11.out).mono ?_); (case side1 => repeat (first | exact (Kd.C_below HR249.out HB.out) | (with_reducible refine Kd.C_alloc ?_ _) | (with_reducible refine Kd.C_drewN ?_ _) | (with_reducible refine Kd.C_drew ?_))); (case side2 => exact HC249.out); rintro e w' ⟨rfl, ⟨nd, rfl⟩⟩; (try first | exact ⟨rfl, _, World.drewN_drewN _ _ _⟩ | exact ⟨rfl, _, Eq.trans (World.drewN_drewN _ _ _) (congrArg (World.drewN _) (Nat.add_assoc _ _ _))⟩))); try go_wp2_with (first | (go_at_call 35; (with_reducible refine (formeref10_Node.calls k2 ((rd_T24 l0 x3_2).f0) ((rd_T24 l0 x3_2).f1) ((rd_T24 l0 x3_2).f2) ((rd_T24 l0 x3_2).f3) ((rd_T24 l0 x3_2).f4) true _ A7.out).mono ?_); rintro e w13 ⟨rfl, hb⟩; have n0_ := Aside0.mk (below_step (by repeat (first | (with_reducible first | exact HB.out | apply below_alloc | apply pw_below_drewN | apply below_drew1) | exact HB.out)) hb); clear HB; have HB := n0_; clear n0_; (try clear hb); (try clear hb2); (try clear hk); (try clear hi); have q14 : (x3_2 : Int) ≤ ((l0.length : Int) : Int) := of_decide_eq_true (by first | (with_reducible assumption) | assumption); obtain ⟨i014, hi014, _, hsz14, _⟩ := info_parts info24; have hroom14 : l0.length ≤ c0 := HC0.out; have hC14 : Kd.C k24 _ (some ad244) l0.length l0 := HR0.out; have hcut14 := cut_to (P := Try.prog) 22 24 .i64 Try.underlying22 hi014 (some ad244) l0.length c0 x3_2 (of_decide_eq_true (by first | (with_reducible assumption) | assumption)) q14 hroom14; have hr14 := Kd.C_take (m := (x3_2 : Int).toNat) hC14 (by omega); have hy14 : y246.length = (x3_2 : Int).toNat := (by rw [Ny246.out, List.length_take]; omega); rw [← Ny246.out] at hr14; rw [← hy14] at hcut14; have HR249 := Aside0.mk hr14; have HC249 := Aside0.mk (show y246.length ≤ c0 from by omega); clear hr14 hC14 hroom14 hi014 hsz14; have KY14 := Aside0.mk hy14; clear hy14; replace q14 := eq_true q14; have p250 : 0 ≤ (x3_2 : Int) := of_decide_eq_true (by first | (with_reducible assumption) | assumption); have q250 : x3_2 < (l0.length : Int) := of_decide_eq_true (by first | (with_reducible assumption) | assumption); obtain ⟨ad250, e250, hx250_0, hx250_1, hx250_2, hx250_3, hx250_4⟩ := at_T24 HR0.out x3_2 p250 q250; obtain rfl : ad244 = ad250 := (by injection e250); replace hx250_0 := (HB.out.cell (World.block_lt_of_cell? w _ hx250_0)).trans hx250_0; replace hx250_1 := (HB.out.cell (World.block_lt_of_cell? w _ hx250_1)).trans hx250_1; replace hx250_2 := (HB.out.cell (World.block_lt_of_cell? w _ hx250_2)).trans hx250_2; replace hx250_3 := (HB.out.cell (World.block_lt_of_cell? w _ hx250_3)).trans hx250_3; replace hx250_4 := (HB.out.cell (World.block_lt_of_cell? w _ hx250_4)).trans hx250_4; replace p250 := eq_true p250; replace q250 := eq_true q250) | (go_at_call 34; (with_reducible refine (formeref10_Index.calls k2 _ _ y246 ((rd_T24 l0 x3_2).f0) t251 _ ?side1 ?side2 A11.out).mono ?_); (case side1 => repeat (first | exact (Kd.C_below HR249.out HB.out) | (with_reducible refine Kd.C_alloc ?_ _) | (with_reducible refine Kd.C_drewN ?_ _) | (with_reducible refine Kd.C_drew ?_))); (case side2 => exact HC249.out); rintro e w' ⟨rfl, ⟨nd, rfl⟩⟩; (try first | exact ⟨rfl, _, World.drewN_drewN _ _ _⟩ | exact ⟨rfl, _, Eq.trans (World.drewN_drewN _ _ _) (congrArg (World.drewN _) (Nat.add_assoc _ _ _))⟩))))
         go_ret
         exact ⟨by first | rfl | (simp [errW_none, errW_some] <;> rfl) | (simp [*, errW_none, errW_some] <;> rfl), by repeat (first | (with_reducible first | exact HB.out | apply below_alloc | apply pw_below_drewN | apply below_drew1) | exact HB.out)⟩
        ·rw [if_neg c12] at H
         have c12b0 : decide (0 ≤ t251) = false := decide_eq_false c12
         clear c12
         have H' := Aside0.mk H
         clear H
         have p244 : 0 ≤ (x3_2 : Int) := of_decide_eq_true (by first | (with_reducible assumption) | assumption)
         have q244 : x3_2 < (l0.length : Int) := of_decide_eq_true (by first | (with_reducible assumption) | assumption)
         obtain ⟨ad244, e244, hx244_0, hx244_1, hx244_2, hx244_3, hx244_4⟩ := at_T24 HR0.out x3_2 p244 q244
         cases e244
         replace hx244_0 := (HB.out.cell (World.block_lt_of_cell? w _ hx244_0)).trans hx244_0
         replace hx244_1 := (HB.out.cell (World.block_lt_of_cell? w _ hx244_1)).trans hx244_1
         replace hx244_2 := (HB.out.cell (World.block_lt_of_cell? w _ hx244_2)).trans hx244_2
         replace hx244_3 := (HB.out.cell (World.block_lt_of_cell? w _ hx244_3)).trans hx244_3
         replace hx244_4 := (HB.out.cell (World.block_lt_of_cell? w _ hx244_4)).trans hx244_4
         replace p244 := eq_true p244
         replace q244 := eq_true q244
         go_wp2_with (first | (go_at_call 35; (with_reducible refine (formeref10_Node.calls k2 ((rd_T24 l0 x3_2).f0) ((rd_T24 l0 x3_2).f1) ((rd_T24 l0 x3_2).f2) ((rd_T24 l0 x3_2).f3) ((rd_T24 l0 x3_2).f4) true _ A7.out).mono ?_); rintro e w15 ⟨rfl, hb⟩; have n0_ := Aside0.mk (below_step (by repeat (first | (with_reducible first | exact HB.out | apply below_alloc | apply pw_below_drewN | apply below_drew1) | exact HB.out)) hb); clear HB; have HB := n0_; clear n0_; (try clear hb); (try clear hb2); (try clear hk); (try clear hi); have q16 : (x3_2 : Int) ≤ ((l0.length : Int) : Int) := of_decide_eq_true (by first | (with_reducible assumption) | assumption); obtain ⟨i016, hi016, _, hsz16, _⟩ := info_parts info24; have hroom16 : l0.length ≤ c0 := HC0.out; have hC16 : Kd.C k24 _ (some ad244) l0.length l0 := HR0.out; have hcut16 := cut_to (P := Try.prog) 22 24 .i64 Try.underlying22 hi016 (some ad244) l0.length c0 x3_2 (of_decide_eq_true (by first | (with_reducible assumption) | assumption)) q16 hroom16; have hr16 := Kd.C_take (m := (x3_2 : Int).toNat) hC16 (by omega); have hy16 : y246.length = (x3_2 : Int).toNat := (by rw [Ny246.out, List.length_take]; omega); rw [← Ny246.out] at hr16; rw [← hy16] at hcut16; have HR249 := Aside0.mk hr16; have HC249 := Aside0.mk (show y246.length ≤ c0 from by omega); clear hr16 hC16 hroom16 hi016 hsz16; have KY16 := Aside0.mk hy16; clear hy16; replace q16 := eq_true q16; have p250 : 0 ≤ (x3_2 : Int) := of_decide_eq_true (by first | (with_reducible assumption) | assumption); have q250 : x3_2 < (l0.length : Int) := of_decide_eq_true (by first | (with_reducible assumption) | assumption); obtain ⟨ad250, e250, hx250_0, hx250_1, hx250_2, hx250_3, hx250_4⟩ := at_T24 HR0.out x3_2 p250 q250; obtain rfl : ad244 = ad250 := (by injection e250); replace hx250_0 := (HB.out.cell (World.block_lt_of_cell? w _ hx250_0)).trans hx250_0; replace hx250_1 := (HB.out.cell (World.block_lt_of_cell? w _ hx250_1)).trans hx250_1; replace hx250_2 := (HB.out.cell (World.block_lt_of_cell? w _ hx250_2)).trans hx250_2; replace hx250_3 := (HB.out.cell (World.block_lt_of_cell? w _ hx250_3)).trans hx250_3; replace hx250_4 := (HB.out.cell (World.block_lt_of_cell? w _ hx250_4)).trans hx250_4; replace p250 := eq_true p250; replace q250 := eq_true q250) | (go_at_call 34; (with_reducible refine (formeref10_Index.calls k2 _ _ y246 ((rd_T24 l0 x3_2).f0) t251 _ ?side1 ?side2 A11.out).mono ?_); (case side1 => repeat (first | exact (Kd.C_below HR249.out HB.out) | (with_reducible refine Kd.C_alloc ?_ _) | (with_reducible refine Kd.C_drewN ?_ _) | (with_reducible refine Kd.C_drew ?_))); (case side2 => exact HC249.out); rintro e w' ⟨rfl, ⟨nd, rfl⟩⟩; (try first | exact ⟨rfl, _, World.drewN_drewN _ _ _⟩ | exact ⟨rfl, _, Eq.trans (World.drewN_drewN _ _ _) (congrArg (World.drewN _) (Nat.add_assoc _ _ _))⟩)))
         repeat (go_quiet (first | (go_at_call 35; (with_reducible refine (formeref10_Node.calls k2 ((rd_T24 l0 x3_2).f0) ((rd_T24 l0 x3_2).f1) ((rd_T24 l0 x3_2).f2) ((rd_T24 l0 x3_2).f3) ((rd_T24 l0 x3_2).f4) true _ A7.out).mono ?_); rintro e w15 ⟨rfl, hb⟩; have n0_ := Aside0.mk (below_step (by repeat (first | (with_reducible first | exact HB.out | apply below_alloc | apply pw_below_drewN | apply below_drew1) | exact HB.out)) hb); clear HB; have HB := n0_; clear n0_; (try clear hb); (try clear hb2); (try clear hk); (try clear hi); have q16 : (x3_2 : Int) ≤ ((l0.length : Int) : Int) := of_decide_eq_true (by first | (with_reducible assumption) | assumption); obtain ⟨i016, hi016, _, hsz16, _⟩ := info_parts info24; have hroom16 : l0.length ≤ c0 := HC0.out; have hC16 : Kd.C k24 _ (some ad244) l0.length l0 := HR0.out; have hcut16 := cut_to (P := Try.prog) 22 24 .i64 Try.underlying22 hi016 (some ad244) l0.length c0 x3_2 (of_decide_eq_true (by first | (with_reducible assumption) | assumption)) q16 hroom16; have hr16 := Kd.C_take (m := (x3_2 : Int).toNat) hC16 (by omega); have hy16 : y246.length = (x3_2 : Int).toNat := (by rw [Ny246.out, List.length_take]; omega); rw [← Ny246.out] at hr16; rw [← hy16] at hcut16; have HR249 := Aside0.mk hr16; have HC249 := Aside0.mk (show y246.length ≤ c0 from by omega); clear hr16 hC16 hroom16 hi016 hsz16; have KY16 := Aside0.mk hy16; clear hy16; replace q16 := eq_true q16; have p250 : 0 ≤ (x3_2 : Int) := of_decide_eq_true (by first | (with_reducible assumption) | assumption); have q250 : x3_2 < (l0.length : Int) := of_decide_eq_true (by first | (with_reducible assumption) | assumption); obtain ⟨ad250, e250, hx250_0, hx250_1, hx250_2, hx250_3, hx250_4⟩ := at_T24 HR0.out x3_2 p250 q250; obtain rfl : ad244 = ad250 := (by injection e250); replace hx250_0 := (HB.out.cell (World.block_lt_of_cell? w _ hx250_0)).trans hx250_0; replace hx250_1 := (HB.out.cell (World.block_lt_of_cell? w _ hx250_1)).trans hx250_1; replace hx250_2 := (HB.out.cell (World.block_lt_of_cell? w _ hx250_2)).trans hx250_2; replace hx250_3 := (HB.out.cell (World.block_lt_of_cell? w _ hx250_3)).trans hx250_3; replace hx250_4 := (HB.out.cell (World.block_lt_of_cell? w _ hx250_4)).trans hx250_4; replace p250 := eq_true p250; replace q250 := eq_true q250) | (go_at_call 34; (with_reducible refine (formeref10_Index.calls k2 _ _ y246 ((rd_T24 l0 x3_2).f0) t251 _ ?side1 ?side2 A11.out).mono ?_); (case side1 => repeat (first | exact (Kd.C_below HR249.out HB.out) | (with_reducible refine Kd.C_alloc ?_ _) | (with_reducible refine Kd.C_drewN ?_ _) | (with_reducible refine Kd.C_drew ?_))); (case side2 => exact HC249.out); rintro e w' ⟨rfl, ⟨nd, rfl⟩⟩; (try first | exact ⟨rfl, _, World.drewN_drewN _ _ _⟩ | exact ⟨rfl, _, Eq.trans (World.drewN_drewN _ _ _) (congrArg (World.drewN _) (Nat.add_assoc _ _ _))⟩))); try go_wp2_with (first | (go_at_call 35; (with_reducible refine (formeref10_Node.calls k2 ((rd_T24 l0 x3_2).f0) ((rd_T24 l0 x3_2).f1) ((rd_T24 l0 x3_2).f2) ((rd_T24 l0 x3_2).f3) ((rd_T24 l0 x3_2).f4) true _ A7.out).mono ?_); rintro e w15 ⟨rfl, hb⟩; have n0_ := Aside0.mk (below_step (by repeat (first | (with_reducible first | exact HB.out | apply below_alloc | apply pw_below_drewN | apply below_drew1) | exact HB.out)) hb); clear HB; have HB := n0_; clear n0_; (try clear hb); (try clear hb2); (try clear hk); (try clear hi); have q16 : (x3_2 : Int) ≤ ((l0.length : Int) : Int) := of_decide_eq_true (by first | (with_reducible assumption) | assumption); obtain ⟨i016, hi016, _, hsz16, _⟩ := info_parts info24; have hroom16 : l0.length ≤ c0 := HC0.out; have hC16 : Kd.C k24 _ (some ad244) l0.length l0 := HR0.out; have hcut16 := cut_to (P := Try.prog) 22 24 .i64 Try.underlying22 hi016 (some ad244) l0.length c0 x3_2 (of_decide_eq_true (by first | (with_reducible assumption) | assumption)) q16 hroom16; have hr16 := Kd.C_take (m := (x3_2 : Int).toNat) hC16 (by omega); have hy16 : y246.length = (x3_2 : Int).toNat := (by rw [Ny246.out, List.length_take]; omega); rw [← Ny246.out] at hr16; rw [← hy16] at hcut16; have HR249 := Aside0.mk hr16; have HC249 := Aside0.mk (show y246.length ≤ c0 from by omega); clear hr16 hC16 hroom16 hi016 hsz16; have KY16 := Aside0.mk hy16; clear hy16; replace q16 := eq_true q16; have p250 : 0 ≤ (x3_2 : Int) := of_decide_eq_true (by first | (with_reducible assumption) | assumption); have q250 : x3_2 < (l0.length : Int) := of_decide_eq_true (by first | (with_reducible assumption) | assumption); obtain ⟨ad250, e250, hx250_0, hx250_1, hx250_2, hx250_3, hx250_4⟩ := at_T24 HR0.out x3_2 p250 q250; obtain rfl : ad244 = ad250 := (by injection e250); replace hx250_0 := (HB.out.cell (World.block_lt_of_cell? w _ hx250_0)).trans hx250_0; replace hx250_1 := (HB.out.cell (World.block_lt_of_cell? w _ hx250_1)).trans hx250_1; replace hx250_2 := (HB.out.cell (World.block_lt_of_cell? w _ hx250_2)).trans hx250_2; replace hx250_3 := (HB.out.cell (World.block_lt_of_cell? w _ hx250_3)).trans hx250_3; replace hx250_4 := (HB.out.cell (World.block_lt_of_cell? w _ hx250_4)).trans hx250_4; replace p250 := eq_true p250; replace q250 := eq_true q250) | (go_at_call 34; (with_reducible refine (formeref10_Index.calls k2 _ _ y246 ((rd_T24 l0 x3_2).f0) t251 _ ?side1 ?side2 A11.out).mono ?_); (case side1 => repeat (first | exact (Kd.C_below HR249.out HB.out) | (with_reducible refine Kd.C_alloc ?_ _) | (with_reducible refine Kd.C_drewN ?_ _) | (with_reducible refine Kd.C_drew ?_))); (case side2 => exact HC249.out); rintro e w' ⟨rfl, ⟨nd, rfl⟩⟩; (try first | exact ⟨rfl, _, World.drewN_drewN _ _ _⟩ | exact ⟨rfl, _, Eq.trans (World.drewN_drewN _ _ _) (congrArg (World.drewN _) (Nat.add_assoc _ _ _))⟩))))
         go_roundg k2
         case measure => have := HJ1.out; have := HK2.out; omega
         case rel => exact ⟨(wrap64 (x3_2 + 1)), (by first | rfl | (simp; done) | (simp [*]; done)), H', ⟨by have := HJ1.out; have := HK2.out; omega⟩, ⟨by repeat (first | (with_reducible first | exact HB.out | apply below_alloc | apply pw_below_drewN | apply below_drew1) | exact HB.out)⟩⟩
       ·replace c8 := Bool.eq_false_iff.mpr c8
        subst c8
        have H1 : (some false) = some r := by rw [if_neg (show ¬ (false = true) by decide)] at H; exact H
        clear H
        have H := H1
        clear H1
        obtain rfl := Option.some.inj H
        have p244 : 0 ≤ (x3_2 : Int) := of_decide_eq_true (by first | (with_reducible assumption) | assumption)
        have q244 : x3_2 < (l0.length : Int) := of_decide_eq_true (by first | (with_reducible assumption) | assumption)
        obtain ⟨ad244, e244, hx244_0, hx244_1, hx244_2, hx244_3, hx244_4⟩ := at_T24 HR0.out x3_2 p244 q244
        cases e244
        replace hx244_0 := (HB.out.cell (World.block_lt_of_cell? w _ hx244_0)).trans hx244_0
        replace hx244_1 := (HB.out.cell (World.block_lt_of_cell? w _ hx244_1)).trans hx244_1
        replace hx244_2 := (HB.out.cell (World.block_lt_of_cell? w _ hx244_2)).trans hx244_2
        replace hx244_3 := (HB.out.cell (World.block_lt_of_cell? w _ hx244_3)).trans hx244_3
        replace hx244_4 := (HB.out.cell (World.block_lt_of_cell? w _ hx244_4)).trans hx244_4
        replace p244 := eq_true p244
        replace q244 := eq_true q244
        go_wp2_with (first | (go_at_call 35; (with_reducible refine (formeref10_Node.calls k2 ((rd_T24 l0 x3_2).f0) ((rd_T24 l0 x3_2).f1) ((rd_T24 l0 x3_2).f2) ((rd_T24 l0 x3_2).f3) ((rd_T24 l0 x3_2).f4) false _ A7.out).mono ?_); rintro e w17 ⟨rfl, hb⟩; have n0_ := Aside0.mk (below_step (by repeat (first | (with_reducible first | exact HB.out | apply below_alloc | apply pw_below_drewN | apply below_drew1) | exact HB.out)) hb); clear HB; have HB := n0_; clear n0_; (try clear hb); (try clear hb2); (try clear hk); (try clear hi)))
        repeat (go_quiet (first | (go_at_call 35; (with_reducible refine (formeref10_Node.calls k2 ((rd_T24 l0 x3_2).f0) ((rd_T24 l0 x3_2).f1) ((rd_T24 l0 x3_2).f2) ((rd_T24 l0 x3_2).f3) ((rd_T24 l0 x3_2).f4) false _ A7.out).mono ?_); rintro e w17 ⟨rfl, hb⟩; have n0_ := Aside0.mk (below_step (by repeat (first | (with_reducible first | exact HB.out | apply below_alloc | apply pw_below_drewN | apply below_drew1) | exact HB.out)) hb); clear HB; have HB := n0_; clear n0_; (try clear hb); (try clear hb2); (try clear hk); (try clear hi))); try go_wp2_with (first | (go_at_call 35; (with_reducible refine (formeref10_Node.calls k2 ((rd_T24 l0 x3_2).f0) ((rd_T24 l0 x3_2).f1) ((rd_T24 l0 x3_2).f2) ((rd_T24 l0 x3_2).f3) ((rd_T24 l0 x3_2).f4) false _ A7.out).mono ?_); rintro e w17 ⟨rfl, hb⟩; have n0_ := Aside0.mk (below_step (by repeat (first | (with_reducible first | exact HB.out | apply below_alloc | apply pw_below_drewN | apply below_drew1) | exact HB.out)) hb); clear HB; have HB := n0_; clear n0_; (try clear hb); (try clear hb2); (try clear hk); (try clear hi))))
        go_ret
        exact ⟨by first | rfl | (simp [errW_none, errW_some] <;> rfl) | (simp [*, errW_none, errW_some] <;> rfl), by repeat (first | (with_reducible first | exact HB.out | apply below_alloc | apply pw_below_drewN | apply below_drew1) | exact HB.out)⟩
      ·rw [if_neg c5] at H
       have c5b0 : decide (x3_2 < (l0.length : Int)) = false := decide_eq_false c5
       clear c5
       replace H := Option.bind_eq_some_iff.mp H
       obtain ⟨⟨t252, t253⟩, A180, H⟩ := H
       try dsimp only at H
       have A18 := Aside0.mk A180
       clear A180
       have H' := Aside0.mk H
       clear H
       go_wp2_with (first | (go_at_call 36; (with_reducible refine (formeref10_depths.calls k2 _ _ l0 t252 t253 _ ?side1 ?side2 A18.out).mono ?_); (case side1 => repeat (first | exact (Kd.C_below HR0.out HB.out) | (with_reducible refine Kd.C_alloc ?_ _) | (with_reducible refine Kd.C_drewN ?_ _) | (with_reducible refine Kd.C_drew ?_))); (case side2 => exact HC0.out); rintro e w19 ⟨v254, rfl, ho0, hb⟩; have n0_ := Aside0.mk (Kd.R_lower ho0 (below_size (by repeat (first | (with_reducible first | exact HB.out | apply below_alloc | apply pw_below_drewN | apply below_drew1) | exact HB.out)))); have n1_ := Aside0.mk (below_step (by repeat (first | (with_reducible first | exact HB.out | apply below_alloc | apply pw_below_drewN | apply below_drew1) | exact HB.out)) hb); clear HB; have HO255 := n0_; have HB := n1_; clear n0_ n1_; (try clear hb); (try clear hb2); (try clear hk); (try clear hi); (try clear ho0)))
       repeat (go_quiet (first | (go_at_call 36; (with_reducible refine (formeref10_depths.calls k2 _ _ l0 t252 t253 _ ?side1 ?side2 A18.out).mono ?_); (case side1 => repeat (first | exact (Kd.C_below HR0.out HB.out) | (with_reducible refine Kd.C_alloc ?_ _) | (with_reducible refine Kd.C_drewN ?_ _) | (with_reducible refine Kd.C_drew ?_))); (case side2 => exact HC0.out); rintro e w19 ⟨v254, rfl, ho0, hb⟩; have n0_ := Aside0.mk (Kd.R_lower ho0 (below_size (by repeat (first | (with_reducible first | exact HB.out | apply below_alloc | apply pw_below_drewN | apply below_drew1) | exact HB.out)))); have n1_ := Aside0.mk (below_step (by repeat (first | (with_reducible first | exact HB.out | apply below_alloc | apply pw_below_drewN | apply below_drew1) | exact HB.out)) hb); clear HB; have HO255 := n0_; have HB := n1_; clear n0_ n1_; (try clear hb); (try clear hb2); (try clear hk); (try clear hi); (try clear ho0))); try go_wp2_with (first | (go_at_call 36; (with_reducible refine (formeref10_depths.calls k2 _ _ l0 t252 t253 _ ?side1 ?side2 A18.out).mono ?_); (case side1 => repeat (first | exact (Kd.C_below HR0.out HB.out) | (with_reducible refine Kd.C_alloc ?_ _) | (with_reducible refine Kd.C_drewN ?_ _) | (with_reducible refine Kd.C_drew ?_))); (case side2 => exact HC0.out); rintro e w19 ⟨v254, rfl, ho0, hb⟩; have n0_ := Aside0.mk (Kd.R_lower ho0 (below_size (by repeat (first | (with_reducible first | exact HB.out | apply below_alloc | apply pw_below_drewN | apply below_drew1) | exact HB.out)))); have n1_ := Aside0.mk (below_step (by repeat (first | (with_reducible first | exact HB.out | apply below_alloc | apply pw_below_drewN | apply below_drew1) | exact HB.out)) hb); clear HB; have HO255 := n0_; have HB := n1_; clear n0_ n1_; (try clear hb); (try clear hb2); (try clear hk); (try clear hi); (try clear ho0))))
       go_loopg [7] k2 (fun kq v7 w' => ∃ (x7_3 : Int), v7 = .int .i64 x7_3 ∧ Aside0 (formeref10_Valid.l1 kq t252 t253 x7_3 = some r) ∧ Aside0 (kq ≤ k2) ∧ Aside0 (Kd.R (Kd.int .i64) 3 w' w.heap.size (fun _ => True) v254 t252) ∧ Aside0 (Below w.heap.size w w'))
       case atStart => exact ⟨(0), (by first | rfl | (simp; done) | (simp [*]; done)), H', ⟨Nat.le_refl _⟩, ⟨by (with_reducible repeat (first | apply Kd.R_alloc | apply Kd.R_drewN | apply Kd.R_drew)); exact HO255.out⟩, ⟨by repeat (first | (with_reducible first | exact HB.out | apply below_alloc | apply pw_below_drewN | apply below_drew1) | exact HB.out)⟩⟩
       case round =>
        clear H'
        try clear c1
        try clear q1
        try clear p2
        try clear q2
        try clear hx2
        try clear c3
        try clear c3b0
        try clear c3b1
        try clear c4
        try clear c5
        try clear c5b0
        try clear c6
        try clear c6b0
        try clear p6
        try clear c8
        try clear c9
        try clear c9b0
        try clear c10
        try clear c10b0
        try clear c10b1
        try clear c12
        try clear c12b0
        try clear c14
        try clear q14
        try clear q16
        try clear hx244_0
        try clear hx244_1
        try clear hx244_2
        try clear hx244_3
        try clear hx244_4
        try clear hx250_0
        try clear hx250_1
        try clear hx250_2
        try clear hx250_3
        try clear hx250_4
        try clear p2
        try clear p244
        try clear p250
        try clear q14
        try clear q16
        try clear q244
        try clear q250
        obtain ⟨x7_3, rfl, HA, HK3, HO_5, HB⟩ := hrel
        cases gk with
        | zero => exact absurd HA.out (by simp [formeref10_Valid.l1])
        | succ k3 =>
         have H := HA.out
         clear HA
         simp only [formeref10_Valid.l1] at H
         by_cases c20 : x7_3 < (t252.length : Int)
         ·rw [if_pos c20] at H
          have c20b0 : decide (x7_3 < (t252.length : Int)) = true := decide_eq_true c20
          clear c20
          by_cases c21 : 0 ≤ x7_3
          rotate_left
          ·rw [if_neg c21] at H; exact absurd H (by simp)
          rw [if_pos c21] at H
          have c21b0 : decide (0 ≤ x7_3) = true := decide_eq_true c21
          clear c21
          by_cases c22 : (rd t252 x7_3) > 30
          ·rw [if_pos c22] at H
           have c22b0 : decide (30 < (rd t252 x7_3)) = true := decide_eq_true c22
           clear c22
           obtain rfl := Option.some.inj H
           obtain ⟨Ao23, co23, eo23⟩ := Kd.R_slice HO_5.out
           subst eo23
           have p256 : 0 ≤ (x7_3 : Int) := of_decide_eq_true (by first | (with_reducible assumption) | assumption)
           have q256 : x7_3 < (t252.length : Int) := of_decide_eq_true (by first | (with_reducible assumption) | assumption)
           obtain ⟨ad256, e256, hx256_0⟩ := Kd.at_int (Kd.R_reads' HO_5.out).2.2 x7_3 p256 q256
           cases e256
           replace p256 := eq_true p256
           replace q256 := eq_true q256
           go_wp2
           repeat (go_quiet (fail); try go_wp2)
           go_ret
           exact ⟨by first | rfl | (simp [errW_none, errW_some] <;> rfl) | (simp [*, errW_none, errW_some] <;> rfl), by repeat (first | (with_reducible first | exact HB.out | apply below_alloc | apply pw_below_drewN | apply below_drew1) | exact HB.out)⟩
          ·rw [if_neg c22] at H
           have c22b0 : decide (30 < (rd t252 x7_3)) = false := decide_eq_false c22
           clear c22
           have H' := Aside0.mk H
           clear H
           obtain ⟨Ao24, co24, eo24⟩ := Kd.R_slice HO_5.out
           subst eo24
           have p256 : 0 ≤ (x7_3 : Int) := of_decide_eq_true (by first | (with_reducible assumption) | assumption)
           have q256 : x7_3 < (t252.length : Int) := of_decide_eq_true (by first | (with_reducible assumption) | assumption)
           obtain ⟨ad256, e256, hx256_0⟩ := Kd.at_int (Kd.R_reads' HO_5.out).2.2 x7_3 p256 q256
           cases e256
           replace p256 := eq_true p256
           replace q256 := eq_true q256
           go_wp2
           repeat (go_quiet (fail); try go_wp2)
           go_roundg k3
           case measure => have := HJ1.out; have := HK2.out; have := HK3.out; omega
           case rel => exact ⟨(wrap64 (x7_3 + 1)), (by first | rfl | (simp; done) | (simp [*]; done)), H', ⟨by have := HJ1.out; have := HK2.out; have := HK3.out; omega⟩, ⟨by (with_reducible repeat (first | apply Kd.R_alloc | apply Kd.R_drewN | apply Kd.R_drew)); exact HO_5.out⟩, ⟨by repeat (first | (with_reducible first | exact HB.out | apply below_alloc | apply pw_below_drewN | apply below_drew1) | exact HB.out)⟩⟩
         ·rw [if_neg c20] at H
          have c20b0 : decide (x7_3 < (t252.length : Int)) = false := decide_eq_false c20
          clear c20
          obtain rfl := Option.some.inj H
          obtain ⟨Ao25, co25, eo25⟩ := Kd.R_slice HO_5.out
          subst eo25
          go_wp2
          repeat (go_quiet (fail); try go_wp2)
          go_ret
          exact ⟨by first | rfl | (simp [errW_none, errW_some] <;> rfl) | (simp [*, errW_none, errW_some] <;> rfl), by repeat (first | (with_reducible first | exact HB.out | apply below_alloc | apply pw_below_drewN | apply below_drew1) | exact HB.out)⟩
end Go.Proofs.Ytpafhhgoldenoaa.P
end
section
namespace Go.Proofs.Ytpafhhgoldenoaa.P
open Go.RowKit Go.Proofs.YtpafhhgoldenoaaW.PrintWords Go.Proofs.YtpafhhgoldenoaaW.PrintLast Go.Proofs.YtpafhhgoldenoaaW.PrintMore
open Go.Proofs.Ytpafhhgoldenoaa.XM
set_option linter.unusedVariables false
set_option linter.unusedSimpArgs false
theorem Ev.ite {α : Type} {c : Prop} [Decidable c] {f g : Nat → Option α} {r : α} (h1 : c → Ev f r) (h2 : ¬ c → Ev g r) : Ev (fun k => if c then f k else g k) r := by
 by_cases h : c
 ·simpa [h] using h1 h
 ·simpa [h] using h2 h
theorem Ev.thn {α : Type} {c : Prop} [Decidable c] {f g : Nat → Option α} {r : α} (h : c) (h1 : Ev f r) : Ev (fun k => if c then f k else g k) r := by simpa [h] using h1
theorem Ev.els {α : Type} {c : Prop} [Decidable c] {f g : Nat → Option α} {r : α} (h : ¬ c) (h1 : Ev g r) : Ev (fun k => if c then f k else g k) r := by simpa [h] using h1
theorem Ev.obind {α β : Type} {x : Option α} {a : α} {f : Nat → α → Option β} {r : β} (h : x = some a) (k : Ev (fun n => f n a) r) : Ev (fun n => x.bind (f n)) r := by subst h; simpa using k
theorem Ev.const {α : Type} {x : Option α} {r : α} (h : x = some r) : Ev (fun _ => x) r := by subst h; exact Ev.now r
theorem Ev.up {α : Type} {g : Nat → Option α} {r : α} (h : Ev (fun k => g (k + 1)) r) : Ev g r := Ev.step (fun k => rfl) h
theorem refID_f (a : Int) : formeref10_ID.f a = some (idB a) := by
 unfold formeref10_ID.f idB
 by_cases h : a ≥ 1
 ·simp [h]
 ·have h' : ¬ (1 ≤ a) := h
  simp [h']
theorem refClass (c : Int) : ∃ r, (r = 0 ↔ (c < 32 ∨ 126 < c)) ∧ Ev (fun k => formeref06_Class.f k c) r := by
 have key : ∃ r, (r = 0 ↔ (c < 32 ∨ 126 < c)) ∧ ∀ k, formeref06_Class.f (k + 3) c = some r := by
  simp only [formeref06_Class.f, formeref06_Class.j0, formeref06_Class.j1, formeref06_Class.j2]
  by_cases a1 : c < 32
  ·have g1 : ¬ c ≥ 97 := by omega
   have g2 : ¬ c ≥ 65 := by omega
   have g3 : ¬ c ≥ 48 := by omega
   have g7 : ¬ c = 32 := by omega
   have g8 : ¬ c = 126 := by omega
   have g9 : ¬ c > 32 := by omega
   exact ⟨0, by omega, fun k => by simp only [g1, g2, g3, g7, g8, g9, if_false, Bool.false_eq_true]⟩
  by_cases a2 : 126 < c
  ·have g1 : c ≥ 97 := by omega
   have g2 : c ≥ 65 := by omega
   have g3 : c ≥ 48 := by omega
   have g4 : ¬ c ≤ 122 := by omega
   have g5 : ¬ c ≤ 90 := by omega
   have g6 : ¬ c ≤ 57 := by omega
   have g7 : ¬ c = 32 := by omega
   have g8 : ¬ c = 126 := by omega
   have g9 : ¬ c < 126 := by omega
   have g10 : c > 32 := by omega
   exact ⟨0, by omega, fun k => by simp only [g1, g2, g3, g4, g5, g6, g7, g8, g9, g10, if_false, if_true, decide_false, Bool.false_eq_true]⟩
  have e : ∀ r : Int, r ≠ 0 → (r = 0 ↔ (c < 32 ∨ 126 < c)) := fun r h => by omega
  by_cases b1 : 97 ≤ c
  ·rw [if_pos (by omega)]
   by_cases b2 : c ≤ 122
   ·exact ⟨1, e _ (by omega), fun k => by simp [b2]⟩
   ·rw [show decide (c ≤ 122) = false by simp; omega]
    by_cases b3 : c = 126
    ·exact ⟨6, e _ (by omega), fun k => by subst b3; simp⟩
    ·exact ⟨5, e _ (by omega), fun k => by simp; rw [if_pos (by omega), if_neg (by omega), if_pos (by omega), if_neg (by omega), if_neg (by omega), if_neg b3, if_pos (by omega), if_pos (by omega)]⟩
  ·rw [if_neg (by omega)]
   by_cases b2 : 65 ≤ c
   ·by_cases b3 : c ≤ 90
    ·exact ⟨2, e _ (by omega), fun k => by simp [b2, b3]⟩
    ·exact ⟨5, e _ (by omega), fun k => by simp [b2, b3]; rw [if_pos (by omega), if_neg (by omega), if_neg (by omega), if_neg (by omega), if_pos (by omega), if_pos (by omega)]⟩
   ·by_cases b3 : 48 ≤ c
    ·by_cases b4 : c ≤ 57
     ·exact ⟨3, e _ (by omega), fun k => by simp [b2, b3, b4]⟩
     ·exact ⟨5, e _ (by omega), fun k => by simp [b2, b3, b4]; rw [if_neg (by omega), if_neg (by omega), if_pos (by omega), if_pos (by omega)]⟩
    ·by_cases b4 : c = 32
     ·exact ⟨4, e _ (by omega), fun k => by subst b4; simp⟩
     ·exact ⟨5, e _ (by omega), fun k => by simp [b2, b3]; rw [if_neg b4, if_neg (by omega), if_pos (by omega), if_pos (by omega)]⟩
 obtain ⟨r, h1, h2⟩ := key
 exact ⟨r, h1, 3, fun k hk => by obtain ⟨m, rfl⟩ : ∃ m, k = m + 3 := ⟨k - 3, by omega⟩; exact h2 m⟩
theorem w64n (i : Nat) (h : i < 9223372036854775807) : wrap64 ((i : Int) + 1) = ((i + 1 : Nat) : Int) := by unfold wrap64; omega
theorem bt_nat (s : ByteArray) (i : Nat) (h : i < s.size) : bt s (i : Int) = (s[i].toNat : Int) := by
 have e : (i : Int).toNat = i := by omega
 simp [bt, e, h]
theorem refText_go (s : ByteArray) (hs : s.size ≤ 9223372036854775807) : ∀ (d i : Nat), i ≤ s.size → s.size - i ≤ d → (∀ j (h : j < s.size), j < i → okByte s[j] = true) →
  Ev (fun k => formeref06_Valid.l0 k s i) (okText s) := by
 intro d
 induction d with
 | zero =>
  intro i hi hd ha
  obtain rfl : i = s.size := by omega
  refine Ev.up ?_
  simp only [formeref06_Valid.l0]
  refine Ev.els (by omega) (Ev.const ?_)
  congr 1
  rw [Bool.eq_iff_iff, okText_iff]
  simp only [decide_eq_true_eq]
  exact ⟨fun h => ⟨fun j hj => ha j hj hj, by omega⟩, fun h => by omega⟩
 | succ d ih =>
  intro i hi hd ha
  by_cases hlt : i < s.size
  ·refine Ev.up ?_
   simp only [formeref06_Valid.l0]
   refine Ev.thn (by omega) (Ev.thn (by omega) ?_)
   obtain ⟨r, hr, hv⟩ := refClass (bt s i)
   rw [bt_nat s i hlt] at hr
   refine Ev.bind hv ?_
   by_cases h0 : r = 0
   ·refine Ev.thn h0 (Ev.const ?_)
    rw [okText_bad s i hlt (by have := hr.1 h0; omega)]
   ·refine Ev.els h0 ?_
    rw [w64n i (by omega)]
    refine ih (i + 1) (by omega) (by omega) ?_
    intro j hj hji
    by_cases e : j = i
    ·subst e
     exact okByte_of (by have : ¬ _ := fun x => h0 (hr.2 x); omega)
    ·exact ha j hj (by omega)
  ·obtain rfl : i = s.size := by omega
   refine Ev.up ?_
   simp only [formeref06_Valid.l0]
   refine Ev.els (by omega) (Ev.const ?_)
   congr 1
   rw [Bool.eq_iff_iff, okText_iff]
   simp only [decide_eq_true_eq]
   exact ⟨fun h => ⟨fun j hj => ha j hj hj, by omega⟩, fun h => by omega⟩
theorem refText (s : ByteArray) (hs : s.size ≤ 9223372036854775807) : Ev (fun k => formeref06_Valid.f k s) (okText s) :=
 refText_go s hs s.size 0 (by omega) (by omega) (fun j h hj => by omega)
theorem formedB_iff (n : S24) : formedB n = true ↔ okText n.f4 = true ∧ idB n.f0 = true ∧ (1 ≤ n.f2 ∧ n.f2 ≤ 11) ∧ (0 ≤ n.f3 ∧ n.f3 ≤ 100) ∧ (0 ≤ n.f1 ∧ n.f1 ≤ 1000000) ∧ (n.f4.toList = [] ∨ n.f2 = 2 ∨ n.f2 = 11) := by
 unfold formedB tree_formed.f text_Valid.f
 simp only [idB_f, Option.bind_some]
 have hp : idB n.f1 = true ↔ 1 ≤ n.f1 ∧ n.f1 ≤ 1000000 := by simp [idB]
 generalize idB n.f0 = A at *
 generalize idB n.f1 = B at *
 generalize okText n.f4 = C at *
 constructor
 ·intro h
  repeat' split at h
  all_goals simp at h
  all_goals simp_all
  all_goals omega
 ·rintro ⟨h1, h2, h3, h4, h5, h6⟩
  repeat' split
  all_goals simp_all
  all_goals omega
theorem refNode (n : S24) (hs : n.f4.size ≤ 9223372036854775807) : Ev (fun k => formeref10_Node.f k n.f0 n.f1 n.f2 n.f3 n.f4) (formedB n) := by
 simp only [formeref10_Node.f]
 refine Ev.bind (refText n.f4 hs) ?_
 rw [refID_f]
 simp only [Option.bind_some]
 refine Ev.const ?_
 have hf := formedB_iff n
 generalize formedB n = F at *
 generalize idB n.f0 = A at *
 generalize okText n.f4 = C at *
 have hF : F = decide (C = true ∧ A = true ∧ (1 ≤ n.f2 ∧ n.f2 ≤ 11) ∧ (0 ≤ n.f3 ∧ n.f3 ≤ 100) ∧ (0 ≤ n.f1 ∧ n.f1 ≤ 1000000) ∧ (n.f4.toList = [] ∨ n.f2 = 2 ∨ n.f2 = 11)) := by
  rw [Bool.eq_iff_iff, hf]; simp
 rw [hF]
 repeat' split
 all_goals simp_all
 all_goals first
  | (rw [Bool.eq_iff_iff]; simp; done)
  | (intros; exfalso; omega)
abbrev nd (l : List S24) (j : Nat) : S24 := rd_T24 l (j : Int)
theorem refIndex_go (l : List S24) (a : Int) (hl : l.length ≤ 4000) : ∀ (d i : Nat), i ≤ l.length → l.length - i ≤ d → (∀ j, j < i → (nd l j).f0 ≠ a) →
  Ev (fun k => formeref10_Index.l0 k l a i) (ixFind (fun n => decide (n.f0 = a)) l) := by
 intro d
 induction d with
 | zero =>
  intro i hi hd ha
  refine Ev.up ?_
  simp only [formeref10_Index.l0]
  refine Ev.els (by omega) (Ev.const ?_)
  rw [ixFind_none (fun j hj => by simpa using ha j (by omega))]
 | succ d ih =>
  intro i hi hd ha
  by_cases hlt : i < l.length
  ·refine Ev.up ?_
   simp only [formeref10_Index.l0]
   refine Ev.thn (by omega) (Ev.thn (by omega) ?_)
   by_cases he : (nd l i).f0 = a
   ·refine Ev.thn he (Ev.const ?_)
    rw [ixFind_at hlt (by simpa using he) (fun j hj => by simpa using ha j hj)]
   ·refine Ev.els he ?_
    rw [w64n i (by omega)]
    refine ih (i + 1) (by omega) (by omega) (fun j hj => ?_)
    by_cases e : j = i
    ·subst e; exact he
    ·exact ha j (by omega)
  ·refine Ev.up ?_
   simp only [formeref10_Index.l0]
   refine Ev.els (by omega) (Ev.const ?_)
   rw [ixFind_none (fun j hj => by simpa using ha j (by omega))]
theorem refIndex (l : List S24) (a : Int) (hl : l.length ≤ 4000) : Ev (fun k => formeref10_Index.f k l a) (ixFind (fun n => decide (n.f0 = a)) l) :=
 refIndex_go l a hl l.length 0 (by omega) (by omega) (fun j hj => by omega)
theorem nd_take {l : List S24} {i j : Nat} (h : j < i) : nd (l.take i) j = nd l j := by
 simp [rd_T24, h]
theorem refStands (k i : Int) (h1 : 1 ≤ i) (h2 : i ≤ 11) : formeref10_Stands.f k i = some (standsB k i) := by
 unfold standsB formeref10_Stands.f tree_stands.f
 repeat' split
 all_goals first
  | (have : i = 9 := by omega); subst this; simp_all; done
  | simp_all; done
  | omega
structure TreeAt (l : List S24) (ds : Nat → Int) : Prop where
 pos : 0 < l.length
 len : l.length ≤ 4000
 form : ∀ j, j < l.length → formedB (nd l j) = true
 ids : ∀ j k, j < k → k < l.length → (nd l j).f0 ≠ (nd l k).f0
 root : (nd l 0).f1 = 0 ∧ (nd l 0).f2 = 1
 d0 : ds 0 = 1
 par : ∀ j, j < l.length → 0 < j → ∃ k, k < j ∧ (nd l k).f0 = (nd l j).f1 ∧ standsB (nd l j).f2 (nd l k).f2 = true ∧ ds j = ds k + 1
 le30 : ∀ j, j < l.length → ds j ≤ 30
theorem idB_iff (a : Int) : idB a = true ↔ 1 ≤ a ∧ a ≤ 1000000 := by simp [idB]
variable {l : List S24} {ds : Nat → Int}
theorem TreeAt.id (T : TreeAt l ds) {j : Nat} (h : j < l.length) : 1 ≤ (nd l j).f0 ∧ (nd l j).f0 ≤ 1000000 := (idB_iff _).1 ((formedB_iff _).1 (T.form j h)).2.1
theorem TreeAt.inj (T : TreeAt l ds) {j k : Nat} (hj : j < l.length) (hk : k < l.length) (h : (nd l j).f0 = (nd l k).f0) : j = k := by
 rcases Nat.lt_trichotomy j k with c | c | c
 ·exact absurd h (T.ids j k c hk)
 ·exact c
 ·exact absurd h.symm (T.ids k j c hj)
theorem TreeAt.dpos (T : TreeAt l ds) : ∀ j, j < l.length → 1 ≤ ds j ∧ ds j ≤ j + 1 := by
 intro j
 induction j using Nat.strongRecOn with
 | ind j ih =>
  intro hj
  by_cases h0 : j = 0
  ·subst h0; rw [T.d0]; omega
  ·obtain ⟨k, hk, _, _, e⟩ := T.par j hj (by omega)
   have := ih k hk (by omega)
   omega
def PAt (l : List S24) (ds : Nat → Int) (i : Nat) (D : Places) : Prop :=
 (∀ j, j < i → mlook D (nd l j).f0 = some ((j : Int), ds j)) ∧ ∀ x, (∀ j, j < i → (nd l j).f0 ≠ x) → mlook D x = none
structure PreAt (l : List S24) (ds : Nat → Int) (i : Nat) : Prop where
 form : ∀ j, j < i → formedB (nd l j) = true
 ids : ∀ j k, j < k → k < i → (nd l j).f0 ≠ (nd l k).f0
 d0 : 0 < i → ds 0 = 1
 par : ∀ j, j < i → 0 < j → ∃ k, k < j ∧ (nd l k).f0 = (nd l j).f1 ∧ standsB (nd l j).f2 (nd l k).f2 = true ∧ ds j = ds k + 1
 le30 : ∀ j, j < i → ds j ≤ 30
 ge1 : ∀ j, j < i → 1 ≤ ds j
theorem drop_nd (l : List S24) (k : Nat) (h : k < l.length) : l.drop k = nd l k :: l.drop (k + 1) := by
 rw [List.drop_eq_getElem_cons h]
 congr 1
 simp [rd_T24, h]
theorem PAt.find {l : List S24} {ds : Nat → Int} {i : Nat} {D : Places} (h : PAt l ds i D) (x : Int) : (∃ j, j < i ∧ (nd l j).f0 = x ∧ mlook D x = some ((j : Int), ds j)) ∨ ((∀ j, j < i → (nd l j).f0 ≠ x) ∧ mlook D x = none) := by
 by_cases e : ∃ j, j < i ∧ (nd l j).f0 = x
 ·obtain ⟨j, hj, e⟩ := e
  exact .inl ⟨j, hj, e, by rw [← e]; exact h.1 j hj⟩
 ·have e' : ∀ j, j < i → (nd l j).f0 ≠ x := fun j hj c => e ⟨j, hj, c⟩
  exact .inr ⟨e', h.2 x e'⟩
theorem plGo_tree (l : List S24) (hroot : (nd l 0).f1 = 0) : ∀ (d i : Nat) (D D' : Places) (ds : Nat → Int), i ≤ l.length → l.length - i ≤ d → PAt l ds i D → PreAt l ds i → plGo l i (l.drop i) D = some D' →
  ∃ ds', PAt l ds' l.length D' ∧ PreAt l ds' l.length := by
 intro d
 induction d with
 | zero =>
  intro i D D' ds hi hd hp hpre h
  obtain rfl : i = l.length := by omega
  rw [List.drop_length] at h
  simp only [plGo, Option.some.injEq] at h
  subst h
  exact ⟨ds, hp, hpre⟩
 | succ d ih =>
  intro i D D' ds hi hd hp hpre h
  by_cases hlt : i < l.length
  ·rw [drop_nd l i hlt] at h
   simp only [plGo] at h
   obtain ⟨D1, h1, h2⟩ := Option.bind_eq_some_iff.1 h
   unfold plStep at h1
   split at h1
   ·cases h1
   rename_i hform
   split at h1
   ·cases h1
   rename_i hnew
   split at h1
   ·cases h1
   rename_i hpar
   split at h1
   ·cases h1
   rename_i h30
   obtain rfl := Option.some.inj h1
   have hnone : ∀ j, j < i → (nd l j).f0 ≠ (nd l i).f0 := by
    intro j hj e
    have := hp.1 j hj
    rw [e] at this
    rw [this] at hnew
    have h1 := hpre.ge1 j hj
    simp at hnew
    have := hnew
    omega
   have hform : formedB (nd l i) = true := by simpa using hform
   obtain ⟨dv, hdv⟩ : ∃ dv : Int, dv = ((mlook D (nd l i).f1).getD (0, 0)).2 + 1 := ⟨_, rfl⟩
   have hpar' : 0 < i → ∃ k, k < i ∧ (nd l k).f0 = (nd l i).f1 ∧ standsB (nd l i).f2 (nd l k).f2 = true ∧ dv = ds k + 1 := by
    intro h0
    have hq : ¬ (mlook D (nd l i).f1 = none ∨ standsB (nd l i).f2 (rd_T24 l ((mlook D (nd l i).f1).getD (0, 0)).1).f2 = false) := fun c => hpar ⟨h0, c⟩
    rcases hp.find (nd l i).f1 with ⟨k, hk, e, hm⟩ | ⟨_, hm⟩
    ·rw [hm] at hq hdv
     exact ⟨k, hk, e, by simpa using fun c => hq (.inr c), by simpa using hdv⟩
    ·exact absurd (.inl hm) hq
   have hdv0 : i = 0 → dv = 1 := by
    intro h0
    subst h0
    rw [hp.2 _ (fun j hj => by omega)] at hdv
    simpa using hdv
   have hdvr : 1 ≤ dv ∧ dv ≤ 30 := by
    by_cases h0 : i = 0
    ·rw [hdv0 h0]; omega
    ·obtain ⟨k, hk, e, _, e2⟩ := hpar' (by omega)
     have := hpre.ge1 k hk
     have := hpre.le30 k hk
     omega
   obtain ⟨ds', hds, hdi⟩ : ∃ ds' : Nat → Int, (∀ j, j < i → ds' j = ds j) ∧ ds' i = dv := ⟨fun j => if j = i then dv else ds j, fun j hj => by simp; omega, by simp⟩
   refine ih (i + 1) _ D' ds' hlt (by clear hpar'; omega) ⟨?_, ?_⟩ ⟨?_, ?_, ?_, ?_, ?_, ?_⟩ h2
   ·intro j hj
    rw [mlook_mput]
    by_cases e : j = i
    ·subst e
     rw [if_pos rfl, hdi, hdv]
    ·rw [if_neg (fun c => hnone j (by omega) c.symm), hp.1 j (by omega), hds j (by omega)]
   ·intro x hx
    rw [mlook_mput, if_neg (hx i (by omega)), hp.2 x (fun j hj => hx j (by omega))]
   ·intro j hj
    by_cases e : j = i
    ·subst e; exact hform
    ·exact hpre.form j (by omega)
   ·intro j k hjk hk
    by_cases e : k = i
    ·subst e; exact hnone j hjk
    ·exact hpre.ids j k hjk (by omega)
   ·intro _
    by_cases e : i = 0
    ·subst e; rw [hdi, hdv0 rfl]
    ·rw [hds 0 (by omega), hpre.d0 (by omega)]
   ·intro j hj h0
    by_cases e : j = i
    ·subst e
     obtain ⟨k, hk, e1, e2, e3⟩ := hpar' h0
     exact ⟨k, hk, e1, e2, by rw [hdi, hds k hk, e3]⟩
    ·obtain ⟨k, hk, e1, e2, e3⟩ := hpre.par j (by omega) h0
     exact ⟨k, hk, e1, e2, by rw [hds j (by omega), hds k (by omega), e3]⟩
   ·intro j hj
    by_cases e : j = i
    ·subst e; rw [hdi]; omega
    ·rw [hds j (by omega)]; exact hpre.le30 j (by omega)
   ·intro j hj
    by_cases e : j = i
    ·subst e; rw [hdi]; omega
    ·rw [hds j (by omega)]; exact hpre.ge1 j (by omega)
  ·obtain rfl : i = l.length := by omega
   rw [List.drop_length] at h
   simp only [plGo, Option.some.injEq] at h
   subst h
   exact ⟨ds, hp, hpre⟩
theorem placesP_tree {l : List S24} {D : Places} (h : placesP l = some D) : ∃ ds, TreeAt l ds ∧ PAt l ds l.length D := by
 obtain ⟨h1, h2, h3, h4, h5, _⟩ := placesP_some h
 obtain ⟨ds, hp, hpre⟩ := plGo_tree l h3 l.length 0 [] D (fun _ => 0) (by omega) (by omega) ⟨fun j hj => by omega, fun x _ => rfl⟩ ⟨fun j hj => by omega, fun j k _ hk => by omega, fun h => by omega, fun j hj => by omega, fun j hj => by omega, fun j hj => by omega⟩ (by simpa using h5)
 exact ⟨ds, ⟨h1, h2, hpre.form, hpre.ids, ⟨h3, h4⟩, hpre.d0 h1, hpre.par, hpre.le30⟩, hp⟩
theorem TreeAt.goes (T : TreeAt l ds) : ∀ (d i : Nat) (D : Places), i ≤ l.length → l.length - i ≤ d → PAt l ds i D → ∃ D', plGo l i (l.drop i) D = some D' := by
 intro d
 induction d with
 | zero =>
  intro i D hi hd hp
  obtain rfl : i = l.length := by omega
  rw [List.drop_length]
  exact ⟨D, rfl⟩
 | succ d ih =>
  intro i D hi hd hp
  by_cases hlt : i < l.length
  ·rw [drop_nd l i hlt]
   simp only [plGo]
   have hnew : mlook D (nd l i).f0 = none := hp.2 _ (fun j hj => T.ids j i hj hlt)
   have key : ∃ e, plStep l i (nd l i) D = some (mput D (nd l i).f0 ((i : Int), e)) ∧ e = ds i := by
    unfold plStep
    rw [if_neg (by simpa using T.form i hlt), hnew]
    simp only [Option.getD_none, ne_eq, not_true_eq_false, if_false]
    by_cases h0 : i = 0
    ·subst h0
     rw [if_neg (by omega), hp.2 _ (fun j hj => by omega)]
     exact ⟨1, by simp, T.d0.symm⟩
    ·obtain ⟨k, hk, e1, e2, e3⟩ := T.par i hlt (by omega)
     have hm : mlook D (nd l i).f1 = some ((k : Int), ds k) := by rw [← e1]; exact hp.1 k hk
     rw [hm]
     simp only [Option.getD_some]
     rw [if_neg (by rw [show (rd_T24 l (k : Int)) = nd l k from rfl, e2]; simp), if_neg (by have := T.le30 i hlt; omega)]
     exact ⟨_, rfl, e3.symm⟩
   obtain ⟨e, he, rfl⟩ := key
   rw [he, Option.bind_some]
   refine ih (i + 1) _ (by omega) (by omega) ⟨?_, ?_⟩
   ·intro j hj
    rw [mlook_mput]
    by_cases e : j = i
    ·subst e
     rw [if_pos rfl]
    ·rw [if_neg (fun c => T.ids j i (by omega) hlt c.symm), hp.1 j (by omega)]
   ·intro x hx
    rw [mlook_mput, if_neg (hx i (by omega)), hp.2 x (fun j hj => hx j (by omega))]
  ·obtain rfl : i = l.length := by omega
   rw [List.drop_length]
   exact ⟨D, rfl⟩
theorem TreeAt.places (T : TreeAt l ds) : ∃ D, placesP l = some D := by
 unfold placesP
 have h3 : (rd_T24 l 0).f1 = 0 := T.root.1
 have h4 : (rd_T24 l 0).f2 = 1 := T.root.2
 rw [if_neg (by have := T.pos; have := T.len; omega)]
 simpa using T.goes l.length 0 [] (by omega) (by omega) ⟨fun j hj => by omega, fun x _ => rfl⟩
end Go.Proofs.Ytpafhhgoldenoaa.P
end
section
namespace Go.Proofs.Ytpafhhgoldenoaa.P
open Go.RowKit Go.Proofs.YtpafhhgoldenoaaW.PrintWords Go.Proofs.YtpafhhgoldenoaaW.PrintLast Go.Proofs.YtpafhhgoldenoaaW.PrintMore
open Go.Proofs.Ytpafhhgoldenoaa.XM
set_option linter.unusedVariables false
set_option linter.unusedSimpArgs false
variable {l : List S24} {ds : Nat → Int}
theorem ixFind_cases (p : S24 → Bool) (l : List S24) : (∃ k, k < l.length ∧ p (nd l k) = true ∧ (∀ j, j < k → p (nd l j) = false) ∧ ixFind p l = k) ∨ ((∀ j, j < l.length → p (nd l j) = false) ∧ ixFind p l = -1) := by
 cases e : l.findIdx? p with
 | none =>
  right
  have h := List.findIdx?_eq_none_iff.1 e
  have hn : ∀ j, j < l.length → p (nd l j) = false := fun j hj => by
   have : nd l j = l[j] := by simp [rd_T24, hj]
   rw [this]; exact h _ (List.getElem_mem hj)
  exact ⟨hn, ixFind_none hn⟩
 | some k =>
  left
  obtain ⟨hk, hp, hn⟩ := List.findIdx?_eq_some_iff_getElem.1 e
  refine ⟨k, hk, by simpa [rd_T24, hk] using hp, fun j hj => ?_, by unfold ixFind; rw [e]⟩
  have := hn j hj
  have hj2 : j < l.length := by omega
  simpa [rd_T24, hj2] using this
theorem no_tree (h : ∀ ds, ¬ TreeAt l ds) : (placesP l).isSome = false := by
 cases e : placesP l with
 | none => rfl
 | some D => obtain ⟨ds, T, _⟩ := placesP_tree e; exact absurd T (h ds)
structure PreD (l : List S24) (acc : List Int) (i : Nat) : Prop where
 len : acc.length = i
 root : 0 < i → (nd l 0).f1 = 0 ∧ (nd l 0).f2 = 1 ∧ rd acc 0 = 1
 par : ∀ j, j < i → 0 < j → ∃ k, k < j ∧ (nd l k).f0 = (nd l j).f1 ∧ standsB (nd l j).f2 (nd l k).f2 = true ∧ rd acc j = rd acc k + 1
 bnd : ∀ j, j < i → 1 ≤ rd acc j ∧ rd acc j ≤ j + 1
theorem rd_snoc (acc : List Int) (v : Int) (j : Nat) (h : j < acc.length) : rd (acc ++ [v]) j = rd acc j := by
 simp only [rd, Int.toNat_natCast, List.getD_eq_getElem?_getD, List.getElem?_append_left h]
theorem rd_snoc_last (acc : List Int) (v : Int) : rd (acc ++ [v]) (acc.length : Int) = v := by
 simp [rd]
theorem refDepths_go (l : List S24) (hl : l.length ≤ 4000) (hf : ∀ j, j < l.length → formedB (nd l j) = true) : ∀ (d i : Nat) (acc : List Int), i ≤ l.length → l.length - i ≤ d → PreD l acc i →
  ∃ r, Ev (fun k => formeref10_depths.l0 k l acc i) r ∧ ((r = ([], false) ∧ ∀ ds, ¬ TreeAt l ds) ∨ ∃ acc', r = (acc', true) ∧ PreD l acc' l.length) := by
 intro d
 induction d with
 | zero =>
  intro i acc hi hd hp
  refine ⟨(acc, true), Ev.up ?_, .inr ⟨acc, rfl, (show i = l.length by omega) ▸ hp⟩⟩
  simp only [formeref10_depths.l0]
  exact Ev.els (by omega) (Ev.now _)
 | succ d ih =>
  intro i acc hi hd hp
  by_cases hlt : i < l.length
  ·by_cases h0 : i = 0
   ·subst h0
    by_cases hr : (nd l 0).f1 = 0 ∧ (nd l 0).f2 = 1
    ·obtain ⟨r, hr1, hr2⟩ := ih 1 (acc ++ [1]) (by omega) (by omega) ⟨by rw [List.length_append, hp.len]; rfl, fun _ => ⟨hr.1, hr.2, by have := rd_snoc_last acc 1; rw [hp.len] at this; exact this⟩, fun j hj h => by omega, fun j hj => by
      obtain rfl : j = 0 := by omega
      have := rd_snoc_last acc 1; rw [hp.len] at this; rw [this]; omega⟩
     refine ⟨r, Ev.up ?_, hr2⟩
     simp only [formeref10_depths.l0]
     refine Ev.thn (by omega) (Ev.thn rfl (Ev.thn (by rw [hp.len]; omega) (Ev.thn (by omega) (Ev.thn hr.1 (Ev.thn hr.2 ?_)))))
     rw [w64n 0 (by omega)]
     exact hr1
    ·refine ⟨([], false), Ev.up ?_, .inl ⟨rfl, fun ds T => hr T.root⟩⟩
     simp only [formeref10_depths.l0]
     refine Ev.thn (by omega) (Ev.thn rfl (Ev.thn (by rw [hp.len]; omega) (Ev.thn (by omega) ?_)))
     by_cases h1 : (nd l 0).f1 = 0
     ·refine Ev.thn h1 (Ev.els (fun h2 => hr ⟨h1, h2⟩) (Ev.now _))
     ·exact Ev.els h1 (Ev.now _)
   ·have hI := refIndex (l.take i) (nd l i).f1 (by simp; omega)
    have hlen : (l.take i).length = i := by simp; omega
    rcases ixFind_cases (fun n => decide (n.f0 = (nd l i).f1)) (l.take i) with ⟨k, hk, e1, e2, e3⟩ | ⟨hn, e3⟩
    ·rw [e3] at hI
     have hk : k < i := by omega
     rw [nd_take hk] at e1
     have e1 : (nd l k).f0 = (nd l i).f1 := by simpa using e1
     have hkind : 1 ≤ (nd l k).f2 ∧ (nd l k).f2 ≤ 11 := ((formedB_iff _).1 (hf k (by omega))).2.2.1
     by_cases hs : standsB (nd l i).f2 (nd l k).f2 = true
     ·have hb := hp.bnd k hk
      have hw : wrap64 (rd acc k + 1) = rd acc k + 1 := by unfold wrap64; omega
      obtain ⟨r, hr1, hr2⟩ := ih (i + 1) (acc ++ [rd acc k + 1]) hlt (by omega) ⟨by simp [hp.len], fun _ => by
        obtain ⟨a, b, c⟩ := hp.root (by omega)
        exact ⟨a, b, by have := rd_snoc acc (rd acc k + 1) 0 (by rw [hp.len]; omega); exact this.trans c⟩, fun j hj h => by
        by_cases e : j = i
        ·subst e
         refine ⟨k, hk, e1, hs, ?_⟩
         have := rd_snoc_last acc (rd acc k + 1)
         rw [hp.len] at this
         rw [this, rd_snoc acc _ k (by rw [hp.len]; exact hk)]
        ·obtain ⟨m, hm, a, b, c⟩ := hp.par j (by omega) h
         exact ⟨m, hm, a, b, by rw [rd_snoc acc _ j (by rw [hp.len]; omega), rd_snoc acc _ m (by rw [hp.len]; omega), c]⟩, fun j hj => by
        by_cases e : j = i
        ·subst e
         have := rd_snoc_last acc (rd acc k + 1)
         rw [hp.len] at this
         rw [this]; omega
        ·rw [rd_snoc acc _ j (by rw [hp.len]; omega)]; exact hp.bnd j (by omega)⟩
      refine ⟨r, Ev.up ?_, hr2⟩
      simp only [formeref10_depths.l0]
      refine Ev.thn (by omega) (Ev.els (by omega) (Ev.thn (by omega) (Ev.thn (by omega) (Ev.bind hI ?_))))
      refine Ev.els (by omega) (Ev.thn (by omega) (Ev.thn (by omega) (Ev.obind (refStands _ _ hkind.1 hkind.2) (Ev.thn hs (Ev.thn (by rw [hp.len]; omega) (Ev.thn (by rw [hp.len]; omega) ?_))))))
      rw [w64n i (by omega), hw]
      exact hr1
     ·refine ⟨([], false), Ev.up ?_, .inl ⟨rfl, fun ds T => ?_⟩⟩
      ·simp only [formeref10_depths.l0]
       refine Ev.thn (by omega) (Ev.els (by omega) (Ev.thn (by omega) (Ev.thn (by omega) (Ev.bind hI ?_))))
       exact Ev.els (by omega) (Ev.thn (by omega) (Ev.thn (by omega) (Ev.obind (refStands _ _ hkind.1 hkind.2) (Ev.els hs (Ev.now _)))))
      ·obtain ⟨m, hm, a, b, c⟩ := T.par i hlt (by omega)
       obtain rfl := T.inj (j := m) (k := k) (by omega) (by omega) (a.trans e1.symm)
       exact hs b
    ·rw [e3] at hI
     refine ⟨([], false), Ev.up ?_, .inl ⟨rfl, fun ds T => ?_⟩⟩
     ·simp only [formeref10_depths.l0]
      refine Ev.thn (by omega) (Ev.els (by omega) (Ev.thn (by omega) (Ev.thn (by omega) (Ev.bind hI ?_))))
      exact Ev.thn (by omega) (Ev.now _)
     ·obtain ⟨m, hm, a, b, c⟩ := T.par i hlt (by omega)
      have := hn m (by omega)
      rw [nd_take hm] at this
      simp at this
      exact this a
  ·refine ⟨(acc, true), Ev.up ?_, .inr ⟨acc, rfl, (show i = l.length by omega) ▸ hp⟩⟩
   simp only [formeref10_depths.l0]
   exact Ev.els (by omega) (Ev.now _)
theorem PreD.tree {acc : List Int} (hp : PreD l acc l.length) (T : TreeAt l ds) : ∀ j, j < l.length → rd acc j = ds j := by
 intro j
 induction j using Nat.strongRecOn with
 | ind j ih =>
  intro hj
  by_cases h0 : j = 0
  ·subst h0; rw [T.d0]; exact (hp.root hj).2.2
  ·obtain ⟨k, hk, a, _, c⟩ := hp.par j hj (by omega)
   obtain ⟨m, hm, a', _, c'⟩ := T.par j hj (by omega)
   obtain rfl := T.inj (j := m) (k := k) (by omega) (by omega) (a'.trans a.symm)
   rw [c, c', ih m hm (by omega)]
theorem refL1 (l : List S24) (acc : List Int) (hl : acc.length ≤ 4000) (b : Bool) : ∀ (d i : Nat), i ≤ acc.length → acc.length - i ≤ d → (∀ j, j < i → rd acc j ≤ 30) →
  (Ev (fun k => formeref10_Valid.l1 k acc b i) b ∧ ∀ j, j < acc.length → rd acc j ≤ 30) ∨ (Ev (fun k => formeref10_Valid.l1 k acc b i) false ∧ ∃ j, j < acc.length ∧ 30 < rd acc j) := by
 intro d
 induction d with
 | zero =>
  intro i hi hd ha
  refine .inl ⟨Ev.up ?_, fun j hj => ha j (by omega)⟩
  simp only [formeref10_Valid.l1]
  exact Ev.els (by omega) (Ev.now _)
 | succ d ih =>
  intro i hi hd ha
  by_cases hlt : i < acc.length
  ·by_cases h : rd acc i ≤ 30
   ·have key := ih (i + 1) hlt (by omega) (fun j hj => by
     by_cases e : j = i
     ·subst e; exact h
     ·exact ha j (by omega))
    have go : ∀ r, Ev (fun k => formeref10_Valid.l1 k acc b ((i + 1 : Nat) : Int)) r → Ev (fun k => formeref10_Valid.l1 k acc b i) r := fun r hr => by
     refine Ev.up ?_
     simp only [formeref10_Valid.l1]
     refine Ev.thn (by omega) (Ev.thn (by omega) (Ev.els (by omega) ?_))
     rw [w64n i (by omega)]
     exact hr
    rcases key with ⟨a, c⟩ | ⟨a, c⟩
    ·exact .inl ⟨go _ a, c⟩
    ·exact .inr ⟨go _ a, c⟩
   ·refine .inr ⟨Ev.up ?_, i, hlt, by omega⟩
    simp only [formeref10_Valid.l1]
    exact Ev.thn (by omega) (Ev.thn (by omega) (Ev.thn (by omega) (Ev.now _)))
  ·refine .inl ⟨Ev.up ?_, fun j hj => ha j (by omega)⟩
   simp only [formeref10_Valid.l1]
   exact Ev.els (by omega) (Ev.now _)
theorem refValid_go (l : List S24) (h1 : 0 < l.length) (hl : l.length ≤ 4000) (hs : ∀ j, j < l.length → (nd l j).f4.size ≤ 9223372036854775807) : ∀ (d i : Nat), i ≤ l.length → l.length - i ≤ d →
  (∀ j, j < i → formedB (nd l j) = true) → (∀ j k, j < k → k < i → (nd l j).f0 ≠ (nd l k).f0) →
  Ev (fun k => formeref10_Valid.l0 k l i) (placesP l).isSome := by
 have last : (∀ j, j < l.length → formedB (nd l j) = true) → (∀ j k, j < k → k < l.length → (nd l j).f0 ≠ (nd l k).f0) → Ev (fun k => formeref10_Valid.l0 k l (l.length : Int)) (placesP l).isSome := by
  intro hf hd
  refine Ev.up ?_
  simp only [formeref10_Valid.l0]
  refine Ev.els (by omega) ?_
  obtain ⟨r, hr1, hr2⟩ := refDepths_go l hl hf l.length 0 [] (by omega) (by omega) ⟨rfl, fun h => by omega, fun j hj => by omega, fun j hj => by omega⟩
  refine Ev.bind hr1 ?_
  rcases hr2 with ⟨rfl, hn⟩ | ⟨acc, rfl, hp⟩
  ·rw [no_tree hn]
   rcases refL1 l [] (by simp) false 0 0 (by simp) (by simp) (fun j hj => by omega) with ⟨a, _⟩ | ⟨a, _⟩ <;> exact a
  ·rcases refL1 l acc (by rw [hp.len]; exact hl) true acc.length 0 (by omega) (by omega) (fun j hj => by omega) with ⟨a, c⟩ | ⟨a, j, hj, c⟩
   ·rw [hp.len] at c
    have T : TreeAt l (fun j => rd acc j) := ⟨h1, hl, hf, hd, ⟨(hp.root h1).1, (hp.root h1).2.1⟩, (hp.root h1).2.2, hp.par, c⟩
    obtain ⟨D, hD⟩ := T.places
    rw [hD]
    exact a
   ·rw [hp.len] at hj
    rw [no_tree (fun ds T => by
     have := hp.tree T j hj
     have := T.le30 j hj
     omega)]
    exact a
 intro d
 induction d with
 | zero =>
  intro i hi hd hf hid
  obtain rfl : i = l.length := by omega
  exact last hf hid
 | succ d ih =>
  intro i hi hd hf hid
  by_cases hlt : i < l.length
  ·refine Ev.up ?_
   simp only [formeref10_Valid.l0]
   refine Ev.thn (by omega) (Ev.thn (by omega) (Ev.bind (refNode (nd l i) (hs i hlt)) ?_))
   by_cases hfi : formedB (nd l i) = true
   ·refine Ev.thn hfi (Ev.thn (by omega) ?_)
    have hI := refIndex (l.take i) (nd l i).f0 (by simp; omega)
    have hlen : (l.take i).length = i := by simp; omega
    refine Ev.bind hI ?_
    rcases ixFind_cases (fun n => decide (n.f0 = (nd l i).f0)) (l.take i) with ⟨k, hk, e1, e2, e3⟩ | ⟨hn, e3⟩
    ·rw [e3]
     have hk : k < i := by omega
     rw [nd_take hk] at e1
     have e1 : (nd l k).f0 = (nd l i).f0 := by simpa using e1
     refine Ev.thn (by omega) ?_
     rw [no_tree (fun ds T => T.ids k i hk hlt e1)]
     exact Ev.now _
    ·rw [e3]
     refine Ev.els (by omega) ?_
     rw [w64n i (by omega)]
     refine ih (i + 1) hlt (by omega) (fun j hj => ?_) (fun j k hjk hk => ?_)
     ·by_cases e : j = i
      ·subst e; exact hfi
      ·exact hf j (by omega)
     ·by_cases e : k = i
      ·subst e
       have := hn j (by omega)
       rw [nd_take hjk] at this
       simpa using this
      ·exact hid j k hjk (by omega)
   ·refine Ev.els hfi ?_
    rw [no_tree (fun ds T => hfi (T.form i hlt))]
    exact Ev.now _
  ·obtain rfl : i = l.length := by omega
   exact last hf hid
theorem refValid (l : List S24) (hs : ∀ j, j < l.length → (nd l j).f4.size ≤ 9223372036854775807) : Ev (fun k => formeref10_Valid.f k l) (placesP l).isSome := by
 simp only [formeref10_Valid.f]
 by_cases h1 : (l.length : Int) < 1
 ·refine Ev.thn h1 (Ev.up ?_)
  simp only [formeref10_Valid.j0]
  rw [no_tree (fun ds T => by have := T.pos; omega)]
  exact Ev.now _
 ·refine Ev.els h1 (Ev.up ?_)
  simp only [formeref10_Valid.j0]
  by_cases h2 : (l.length : Int) > 4000
  ·rw [no_tree (fun ds T => by have := T.len; omega)]
   simp only [h2, decide_true]
   exact Ev.now _
  ·simp only [h2, decide_false, Bool.false_eq_true, if_false]
   exact refValid_go l (by omega) (by omega) hs l.length 0 (by omega) (by omega) (fun j hj => by omega) (fun j k _ hk => by omega)
end Go.Proofs.Ytpafhhgoldenoaa.P
end
section
namespace Go.Proofs.Ytpafhhgoldenoaa.P
open Go.RowKit Go.Proofs.YtpafhhgoldenoaaW.PrintWords Go.Proofs.YtpafhhgoldenoaaW.PrintLast Go.Proofs.YtpafhhgoldenoaaW.PrintMore
attribute [local go_sem] max2_int min2_int max_two min_two max_three min_three max_four min_four
set_option linter.unusedVariables false
set_option linter.unusedSimpArgs false
def tree_get.f (l0 : List (S24)) (a1 : Int) : Option (Int × Int) := (tree_Find.f l0 a1).bind fun bt110 => (if bt110.2.2 = 0 then (if bt110.2.1 = true then (some (bt110.1, bt110.2.2)) else (some (bt110.1, 4))) else (some (bt110.1, bt110.2.2)))
set_option maxHeartbeats 8000000 in
set_option maxRecDepth 100000 in
theorem tree_get.calls (A0 : Option Addr) (c0 : Nat) (l0 : List (S24)) (a1 : Int) (r1 : Int) (r2 : Int) (w : World) (hr0 : Kd.C k24 w A0 l0.length l0) (hc0 : l0.length ≤ c0) (h : tree_get.f l0 a1 = some (r1, r2)) :
  Calls Try.prog 37 #[.slice A0 l0.length c0, .int .i64 a1] w fun e w' => e = .returned (.tuple #[.int .i64 r1, .int .i64 r2]) ∧ Below w.heap.size w w' := by
 have HR0 := Aside0.mk hr0
 have HC0 := Aside0.mk hc0
 clear hr0 hc0
 have HB := Aside0.mk (Below.refl w.heap.size w)
 have H : ((tree_Find.f l0 a1).bind fun bt110 => (if bt110.2.2 = 0 then (if bt110.2.1 = true then (some (bt110.1, bt110.2.2)) else (some (bt110.1, 4))) else (some (bt110.1, bt110.2.2)))) = some (r1, r2) := h
 clear h
 replace H := Option.bind_eq_some_iff.mp H
 obtain ⟨⟨t110, t111, t112⟩, A30, H⟩ := H
 try dsimp only at H
 have A3 := Aside0.mk A30
 clear A30
 by_cases c4 : t112 = 0
 ·rw [if_pos c4] at H
  have c4b0 : (t112 == 0) = true := beq_iff_eq.mpr c4
  have c4b1 : (t112 != 0) = false := bne_eq_false_iff_eq.mpr c4
  clear c4
  by_cases c5 : t111 = true
  ·subst c5
   have H1 : (some (t110, t112)) = some (r1, r2) := by rw [if_pos rfl] at H; exact H
   clear H
   have H := H1
   clear H1
   simp only [Option.some.injEq, Prod.mk.injEq] at H
   obtain ⟨rfl, rfl⟩ := H
   go_enter Try.func37, Try.ntmps37
   go_wp2_with (first | ((with_reducible refine gate_callee (f := 11) rfl ?_); refine goesL_ (some 12) rfl rfl Try.func11 (by kernel_rfl) rfl #[.slice A0 l0.length c0, .int .i64 a1] rfl (by (try simp only [List.map_toArray, List.map_cons, List.map_nil]); first | done | rfl | (simp only [List.length_drop, List.length_take]; rfl)) ?_; (with_reducible refine (tree_Find.calls _ _ l0 a1 t110 true t112 _ ?side1 ?side2 A3.out).mono ?_); (case side1 => repeat (first | exact HR0.out | (with_reducible refine Kd.C_alloc ?_ _) | (with_reducible refine Kd.C_drewN ?_ _) | (with_reducible refine Kd.C_drew ?_))); (case side2 => exact HC0.out); rintro e w6 ⟨rfl, hb⟩; refine ⟨_, rfl, ?_⟩; have n0_ := Aside0.mk (below_step (by repeat (first | (with_reducible first | exact HB.out | apply below_alloc | apply pw_below_drewN | apply below_drew1) | exact HB.out)) hb); clear HB; have HB := n0_; clear n0_; (try clear hb); (try clear hb2); (try clear hk); (try clear hi)))
   go_ret2
   exact ⟨by first | rfl | (simp [errW_none, errW_some] <;> rfl) | (simp [*, errW_none, errW_some] <;> rfl), by repeat (first | (with_reducible first | exact HB.out | apply below_alloc | apply pw_below_drewN | apply below_drew1) | exact HB.out)⟩
  ·replace c5 := Bool.eq_false_iff.mpr c5
   subst c5
   have H1 : (some (t110, 4)) = some (r1, r2) := by rw [if_neg (show ¬ (false = true) by decide)] at H; exact H
   clear H
   have H := H1
   clear H1
   simp only [Option.some.injEq, Prod.mk.injEq] at H
   obtain ⟨rfl, rfl⟩ := H
   go_enter Try.func37, Try.ntmps37
   go_wp2_with (first | ((with_reducible refine gate_callee (f := 11) rfl ?_); refine goesL_ (some 12) rfl rfl Try.func11 (by kernel_rfl) rfl #[.slice A0 l0.length c0, .int .i64 a1] rfl (by (try simp only [List.map_toArray, List.map_cons, List.map_nil]); first | done | rfl | (simp only [List.length_drop, List.length_take]; rfl)) ?_; (with_reducible refine (tree_Find.calls _ _ l0 a1 t110 false t112 _ ?side1 ?side2 A3.out).mono ?_); (case side1 => repeat (first | exact HR0.out | (with_reducible refine Kd.C_alloc ?_ _) | (with_reducible refine Kd.C_drewN ?_ _) | (with_reducible refine Kd.C_drew ?_))); (case side2 => exact HC0.out); rintro e w7 ⟨rfl, hb⟩; refine ⟨_, rfl, ?_⟩; have n0_ := Aside0.mk (below_step (by repeat (first | (with_reducible first | exact HB.out | apply below_alloc | apply pw_below_drewN | apply below_drew1) | exact HB.out)) hb); clear HB; have HB := n0_; clear n0_; (try clear hb); (try clear hb2); (try clear hk); (try clear hi)))
   go_ret2
   exact ⟨by first | rfl | (simp [errW_none, errW_some] <;> rfl) | (simp [*, errW_none, errW_some] <;> rfl), by repeat (first | (with_reducible first | exact HB.out | apply below_alloc | apply pw_below_drewN | apply below_drew1) | exact HB.out)⟩
 ·rw [if_neg c4] at H
  have c4b0 : (t112 == 0) = false := beq_eq_false_iff_ne.mpr c4
  have c4b1 : (t112 != 0) = true := bne_iff_ne.mpr c4
  simp only [Option.some.injEq, Prod.mk.injEq] at H
  obtain ⟨rfl, rfl⟩ := H
  go_enter Try.func37, Try.ntmps37
  go_wp2_with (first | ((with_reducible refine gate_callee (f := 11) rfl ?_); refine goesL_ (some 12) rfl rfl Try.func11 (by kernel_rfl) rfl #[.slice A0 l0.length c0, .int .i64 a1] rfl (by (try simp only [List.map_toArray, List.map_cons, List.map_nil]); first | done | rfl | (simp only [List.length_drop, List.length_take]; rfl)) ?_; (with_reducible refine (tree_Find.calls _ _ l0 a1 t110 t111 t112 _ ?side1 ?side2 A3.out).mono ?_); (case side1 => repeat (first | exact HR0.out | (with_reducible refine Kd.C_alloc ?_ _) | (with_reducible refine Kd.C_drewN ?_ _) | (with_reducible refine Kd.C_drew ?_))); (case side2 => exact HC0.out); rintro e w8 ⟨rfl, hb⟩; refine ⟨_, rfl, ?_⟩; have n0_ := Aside0.mk (below_step (by repeat (first | (with_reducible first | exact HB.out | apply below_alloc | apply pw_below_drewN | apply below_drew1) | exact HB.out)) hb); clear HB; have HB := n0_; clear n0_; (try clear hb); (try clear hb2); (try clear hk); (try clear hi)))
  go_ret2
  exact ⟨by first | rfl | (simp [errW_none, errW_some] <;> rfl) | (simp [*, errW_none, errW_some] <;> rfl), by repeat (first | (with_reducible first | exact HB.out | apply below_alloc | apply pw_below_drewN | apply below_drew1) | exact HB.out)⟩
end Go.Proofs.Ytpafhhgoldenoaa.P
end
section
namespace Go.Proofs.Ytpafhhgoldenoaa.P
open Go.RowKit Go.Proofs.YtpafhhgoldenoaaW.PrintWords Go.Proofs.YtpafhhgoldenoaaW.PrintLast Go.Proofs.YtpafhhgoldenoaaW.PrintMore
attribute [local go_sem] max2_int min2_int max_two min_two max_three min_three max_four min_four
set_option linter.unusedVariables false
set_option linter.unusedSimpArgs false
def tree_Kids.f (k : Nat) (l0 : List (S24)) (a1 : Int) : Option (List Int × Int) := (tree_get.f l0 a1).bind fun bt118 => (if bt118.2 = 0 then ((tree_kids.f k l0 a1).bind fun t120 => (some (t120, 0))) else (some (([] : List Int), bt118.2)))
theorem tree_Kids.mono : ∀ a0 a1 k, LeO (tree_Kids.f k a0 a1) (tree_Kids.f (k + 1) a0 a1) := by
 intro a0 a1 k
 unfold tree_Kids.f
 repeat' first
   | (with_reducible exact tree_kids.mono _ _ _)
   | (with_reducible exact LeO.refl _)
   | (with_reducible exact LeO.none _)
   | (with_reducible refine LeO.ite ?_ ?_)
   | (with_reducible refine LeO.bind ?_ (fun _ => ?_))
   | exact tree_kids.mono _ _ _
   | exact LeO.none _
   | refine LeO.ite ?_ ?_
   | refine LeO.bind ?_ (fun _ => ?_)
set_option maxHeartbeats 8000000 in
set_option maxRecDepth 100000 in
theorem tree_Kids.calls (k : Nat) (A0 : Option Addr) (c0 : Nat) (l0 : List (S24)) (a1 : Int) (r1 : List Int) (r2 : Int) (w : World) (hr0 : Kd.C k24 w A0 l0.length l0) (hc0 : l0.length ≤ c0) (h : tree_Kids.f k l0 a1 = some (r1, r2)) :
  Calls Try.prog 15 #[.slice A0 l0.length c0, .int .i64 a1] w fun e w' => ∃ v0_ : Value, e = .returned (.tuple #[v0_, .int .i64 r2]) ∧ Kd.R (Kd.int .i64) 3 w' w.heap.size (fun _ => True) v0_ r1 ∧ Below w.heap.size w w' := by
 have HR0 := Aside0.mk hr0
 have HC0 := Aside0.mk hc0
 clear hr0 hc0
 have HB := Aside0.mk (Below.refl w.heap.size w)
 have H : ((tree_get.f l0 a1).bind fun bt118 => (if bt118.2 = 0 then ((tree_kids.f k l0 a1).bind fun t120 => (some (t120, 0))) else (some (([] : List Int), bt118.2)))) = some (r1, r2) := h
 clear h
 replace H := Option.bind_eq_some_iff.mp H
 obtain ⟨⟨t118, t119⟩, A30, H⟩ := H
 try dsimp only at H
 have A3 := Aside0.mk A30
 clear A30
 by_cases c4 : t119 = 0
 ·rw [if_pos c4] at H
  have c4b0 : (t119 == 0) = true := beq_iff_eq.mpr c4
  have c4b1 : (t119 != 0) = false := bne_eq_false_iff_eq.mpr c4
  clear c4
  replace H := Option.bind_eq_some_iff.mp H
  obtain ⟨t120, A50, H⟩ := H
  try dsimp only at H
  have A5 := Aside0.mk A50
  clear A50
  simp only [Option.some.injEq, Prod.mk.injEq] at H
  obtain ⟨rfl, rfl⟩ := H
  go_enter Try.func15, Try.ntmps15
  go_wp2_with (first | ((with_reducible refine gate_callee (f := 37) rfl ?_); refine goesL_ (some 11) rfl rfl Try.func37 (by kernel_rfl) rfl #[.slice A0 l0.length c0, .int .i64 a1] rfl (by (try simp only [List.map_toArray, List.map_cons, List.map_nil]); first | done | rfl | (simp only [List.length_drop, List.length_take]; rfl)) ?_; (with_reducible refine (tree_get.calls _ _ l0 a1 t118 t119 _ ?side1 ?side2 A3.out).mono ?_); (case side1 => repeat (first | exact HR0.out | (with_reducible refine Kd.C_alloc ?_ _) | (with_reducible refine Kd.C_drewN ?_ _) | (with_reducible refine Kd.C_drew ?_))); (case side2 => exact HC0.out); rintro e w6 ⟨rfl, hb⟩; refine ⟨_, rfl, ?_⟩; have n0_ := Aside0.mk (below_step (by repeat (first | (with_reducible first | exact HB.out | apply below_alloc | apply pw_below_drewN | apply below_drew1) | exact HB.out)) hb); clear HB; have HB := n0_; clear n0_; (try clear hb); (try clear hb2); (try clear hk); (try clear hi)) | ((with_reducible refine gate_callee (f := 38) rfl ?_); refine goesL_ (some 19) rfl rfl Try.func38 (by kernel_rfl) rfl #[.slice A0 l0.length c0, .int .i64 a1] rfl (by (try simp only [List.map_toArray, List.map_cons, List.map_nil]); first | done | rfl | (simp only [List.length_drop, List.length_take]; rfl)) ?_; (with_reducible refine (tree_kids.calls k _ _ l0 a1 t120 _ ?side1 ?side2 A5.out).mono ?_); (case side1 => repeat (first | exact (Kd.C_below HR0.out HB.out) | (with_reducible refine Kd.C_alloc ?_ _) | (with_reducible refine Kd.C_drewN ?_ _) | (with_reducible refine Kd.C_drew ?_))); (case side2 => exact HC0.out); rintro e w7 ⟨v121, rfl, ho0, hb⟩; refine ⟨_, rfl, ?_⟩; have n0_ := Aside0.mk (Kd.R_lower ho0 (below_size (by repeat (first | (with_reducible first | exact HB.out | apply below_alloc | apply pw_below_drewN | apply below_drew1) | exact HB.out)))); have n1_ := Aside0.mk (below_step (by repeat (first | (with_reducible first | exact HB.out | apply below_alloc | apply pw_below_drewN | apply below_drew1) | exact HB.out)) hb); clear HB; have HO122 := n0_; have HB := n1_; clear n0_ n1_; (try clear hb); (try clear hb2); (try clear hk); (try clear hi); (try clear ho0)))
  go_ret2
  exact ⟨_, by first | rfl | (simp [errW_none, errW_some] <;> rfl) | (simp [*, errW_none, errW_some] <;> rfl), by (with_reducible repeat (first | apply Kd.R_alloc | apply Kd.R_drewN | apply Kd.R_drew)); exact HO122.out, by repeat (first | (with_reducible first | exact HB.out | apply below_alloc | apply pw_below_drewN | apply below_drew1) | exact HB.out)⟩
 ·rw [if_neg c4] at H
  have c4b0 : (t119 == 0) = false := beq_eq_false_iff_ne.mpr c4
  have c4b1 : (t119 != 0) = true := bne_iff_ne.mpr c4
  simp only [Option.some.injEq, Prod.mk.injEq] at H
  obtain ⟨rfl, rfl⟩ := H
  go_enter Try.func15, Try.ntmps15
  go_wp2_with (first | ((with_reducible refine gate_callee (f := 37) rfl ?_); refine goesL_ (some 11) rfl rfl Try.func37 (by kernel_rfl) rfl #[.slice A0 l0.length c0, .int .i64 a1] rfl (by (try simp only [List.map_toArray, List.map_cons, List.map_nil]); first | done | rfl | (simp only [List.length_drop, List.length_take]; rfl)) ?_; (with_reducible refine (tree_get.calls _ _ l0 a1 t118 t119 _ ?side1 ?side2 A3.out).mono ?_); (case side1 => repeat (first | exact HR0.out | (with_reducible refine Kd.C_alloc ?_ _) | (with_reducible refine Kd.C_drewN ?_ _) | (with_reducible refine Kd.C_drew ?_))); (case side2 => exact HC0.out); rintro e w8 ⟨rfl, hb⟩; refine ⟨_, rfl, ?_⟩; have n0_ := Aside0.mk (below_step (by repeat (first | (with_reducible first | exact HB.out | apply below_alloc | apply pw_below_drewN | apply below_drew1) | exact HB.out)) hb); clear HB; have HB := n0_; clear n0_; (try clear hb); (try clear hb2); (try clear hk); (try clear hi)))
  go_ret2
  exact ⟨_, by first | rfl | (simp [errW_none, errW_some] <;> rfl) | (simp [*, errW_none, errW_some] <;> rfl), by first | exact Kd.R_nil _ _ _ _ _ | exact Kd.N_nil _ _ _ _ _ | exact Kd.V_nil _ _ _ _ _ | exact Kd.Q_nil _ _ _ _ _ | exact Kd.S_nil _ _ _ _ _, by repeat (first | (with_reducible first | exact HB.out | apply below_alloc | apply pw_below_drewN | apply below_drew1) | exact HB.out)⟩
end Go.Proofs.Ytpafhhgoldenoaa.P
end
section
namespace Go.Proofs.Ytpafhhgoldenoaa.P
open Go.RowKit Go.Proofs.YtpafhhgoldenoaaW.PrintWords Go.Proofs.YtpafhhgoldenoaaW.PrintLast Go.Proofs.YtpafhhgoldenoaaW.PrintMore
attribute [local go_sem] max2_int min2_int max_two min_two max_three min_three max_four min_four
set_option linter.unusedVariables false
set_option linter.unusedSimpArgs false
def formeref10_SameInts.l0 : Nat → List Int → List Int → Int → Option (Bool)
 | 0, _, _, _ => none
 | k + 1, x0, x1, x5 => if x5 < (x0.length : Int) then (if 0 ≤ x5 then (if x5 < (x1.length : Int) then (if (rd x0 x5) = (rd x1 x5) then (formeref10_SameInts.l0 k x0 x1 (wrap64 (x5 + 1))) else (some false)) else (none)) else (none)) else (some true)
def formeref10_SameInts.f (k : Nat) (l0 : List Int) (l1 : List Int) : Option (Bool) := if (l0.length : Int) = (l1.length : Int) then (formeref10_SameInts.l0 k l0 l1 0) else (some false)
theorem formeref10_SameInts.mono_l : ∀ k, (∀ y0 y1 y2, LeO (formeref10_SameInts.l0 k y0 y1 y2) (formeref10_SameInts.l0 (k + 1) y0 y1 y2))
 | 0 => fun _ _ _ r h => by simp [formeref10_SameInts.l0] at h
 | k + 1 => by
  have ih0 := formeref10_SameInts.mono_l k
  ·intro y0 y1 y2
   unfold formeref10_SameInts.l0
   repeat' first
   | (with_reducible exact ih0 _ _ _)
   | (with_reducible exact LeO.refl _)
   | (with_reducible exact LeO.none _)
   | (with_reducible refine LeO.ite ?_ ?_)
   | (with_reducible refine LeO.bind ?_ (fun _ => ?_))
   | exact ih0 _ _ _
   | exact LeO.none _
   | refine LeO.ite ?_ ?_
   | refine LeO.bind ?_ (fun _ => ?_)
theorem formeref10_SameInts.mono : ∀ a0 a1 k, LeO (formeref10_SameInts.f k a0 a1) (formeref10_SameInts.f (k + 1) a0 a1) := by
 intro a0 a1 k
 have ih0 := formeref10_SameInts.mono_l k
 unfold formeref10_SameInts.f
 repeat' first
   | (with_reducible exact ih0 _ _ _)
   | (with_reducible exact LeO.refl _)
   | (with_reducible exact LeO.none _)
   | (with_reducible refine LeO.ite ?_ ?_)
   | (with_reducible refine LeO.bind ?_ (fun _ => ?_))
   | exact ih0 _ _ _
   | exact LeO.none _
   | refine LeO.ite ?_ ?_
   | refine LeO.bind ?_ (fun _ => ?_)
set_option maxHeartbeats 8000000 in
set_option maxRecDepth 100000 in
theorem formeref10_SameInts.calls (k : Nat) (A0 : Option Addr) (c0 : Nat) (l0 : List Int) (A1 : Option Addr) (c1 : Nat) (l1 : List Int) (r : Bool) (w : World) (hr0 : Kd.C (Kd.int .i64) w A0 l0.length l0) (hc0 : l0.length ≤ c0) (hr1 : Kd.C (Kd.int .i64) w A1 l1.length l1) (hc1 : l1.length ≤ c1) (h : formeref10_SameInts.f k l0 l1 = some r) :
  Calls Try.prog 17 #[.slice A0 l0.length c0, .slice A1 l1.length c1] w fun e w' => e = .returned (.bool r) ∧ Drawn0 w w' := by
 have HR0 := Aside0.mk hr0
 have HC0 := Aside0.mk hc0
 clear hr0 hc0
 have HR1 := Aside0.mk hr1
 have HC1 := Aside0.mk hc1
 clear hr1 hc1
 have H : (if (l0.length : Int) = (l1.length : Int) then (formeref10_SameInts.l0 k l0 l1 0) else (some false)) = some r := h
 clear h
 by_cases c3 : (l0.length : Int) = (l1.length : Int)
 ·rw [if_pos c3] at H
  have c3b0 : ((l0.length : Int) == (l1.length : Int)) = true := beq_iff_eq.mpr c3
  have c3b1 : ((l0.length : Int) != (l1.length : Int)) = false := bne_eq_false_iff_eq.mpr c3
  have c3b2 : (l0.length == l1.length) = true := by first | simpa using c3 | (simp at c3 ⊢; omega)
  clear c3
  have H' := Aside0.mk H
  clear H
  go_enter Try.func17, Try.ntmps17
  go_wp2
  repeat (go_quiet (fail); try go_wp2)
  go_loopg [5] k (fun kq v5 w' => ∃ (x5_1 : Int), v5 = .int .i64 x5_1 ∧ Aside0 (formeref10_SameInts.l0 kq l0 l1 x5_1 = some r) ∧ Aside0 (kq ≤ k) ∧ Drawn0 w w')
  case atStart => exact ⟨(0), (by first | rfl | (simp; done) | (simp [*]; done)), H', ⟨Nat.le_refl _⟩, by repeat (first | exact Drawn0.refl _ | apply Drawn0.step)⟩
  case round =>
   clear H'
   try clear c1
   try clear p2
   try clear c3
   try clear c3b0
   try clear c3b1
   try clear c3b2
   obtain ⟨x5_1, rfl, HA, HK1, ⟨m1, rfl⟩⟩ := hrel
   cases gk with
   | zero => exact absurd HA.out (by simp [formeref10_SameInts.l0])
   | succ k1 =>
    have H := HA.out
    clear HA
    simp only [formeref10_SameInts.l0] at H
    by_cases c4 : x5_1 < (l0.length : Int)
    ·rw [if_pos c4] at H
     have c4b0 : decide (x5_1 < (l0.length : Int)) = true := decide_eq_true c4
     clear c4
     by_cases c5 : 0 ≤ x5_1
     rotate_left
     ·rw [if_neg c5] at H; exact absurd H (by simp)
     rw [if_pos c5] at H
     have c5b0 : decide (0 ≤ x5_1) = true := decide_eq_true c5
     clear c5
     by_cases c6 : x5_1 < (l1.length : Int)
     rotate_left
     ·rw [if_neg c6] at H; exact absurd H (by simp)
     rw [if_pos c6] at H
     have c6b0 : decide (x5_1 < (l1.length : Int)) = true := decide_eq_true c6
     clear c6
     by_cases c7 : (rd l0 x5_1) = (rd l1 x5_1)
     ·rw [if_pos c7] at H
      have c7b0 : ((rd l0 x5_1) == (rd l1 x5_1)) = true := beq_iff_eq.mpr c7
      have c7b1 : ((rd l0 x5_1) != (rd l1 x5_1)) = false := bne_eq_false_iff_eq.mpr c7
      clear c7
      have H' := Aside0.mk H
      clear H
      have p123 : 0 ≤ (x5_1 : Int) := of_decide_eq_true (by first | (with_reducible assumption) | assumption)
      have q123 : x5_1 < (l0.length : Int) := of_decide_eq_true (by first | (with_reducible assumption) | assumption)
      obtain ⟨ad123, e123, hx123_0⟩ := Kd.at_int HR0.out x5_1 p123 q123
      cases e123
      replace p123 := eq_true p123
      replace q123 := eq_true q123
      have p124 : 0 ≤ (x5_1 : Int) := of_decide_eq_true (by first | (with_reducible assumption) | assumption)
      have q124 : x5_1 < (l1.length : Int) := of_decide_eq_true (by first | (with_reducible assumption) | assumption)
      obtain ⟨ad124, e124, hx124_0⟩ := Kd.at_int HR1.out x5_1 p124 q124
      cases e124
      replace p124 := eq_true p124
      replace q124 := eq_true q124
      go_wp2
      repeat (go_quiet (fail); try go_wp2)
      go_roundg k1
      case measure => have := HK1.out; omega
      case rel => exact ⟨(wrap64 (x5_1 + 1)), (by first | rfl | (simp; done) | (simp [*]; done)), H', ⟨by have := HK1.out; omega⟩, by repeat (first | exact Drawn0.refl _ | apply Drawn0.step)⟩
     ·rw [if_neg c7] at H
      have c7b0 : ((rd l0 x5_1) == (rd l1 x5_1)) = false := beq_eq_false_iff_ne.mpr c7
      have c7b1 : ((rd l0 x5_1) != (rd l1 x5_1)) = true := bne_iff_ne.mpr c7
      obtain rfl := Option.some.inj H
      have p123 : 0 ≤ (x5_1 : Int) := of_decide_eq_true (by first | (with_reducible assumption) | assumption)
      have q123 : x5_1 < (l0.length : Int) := of_decide_eq_true (by first | (with_reducible assumption) | assumption)
      obtain ⟨ad123, e123, hx123_0⟩ := Kd.at_int HR0.out x5_1 p123 q123
      cases e123
      replace p123 := eq_true p123
      replace q123 := eq_true q123
      have p124 : 0 ≤ (x5_1 : Int) := of_decide_eq_true (by first | (with_reducible assumption) | assumption)
      have q124 : x5_1 < (l1.length : Int) := of_decide_eq_true (by first | (with_reducible assumption) | assumption)
      obtain ⟨ad124, e124, hx124_0⟩ := Kd.at_int HR1.out x5_1 p124 q124
      cases e124
      replace p124 := eq_true p124
      replace q124 := eq_true q124
      go_wp2
      repeat (go_quiet (fail); try go_wp2)
      go_ret
      exact ⟨by first | rfl | (simp; done) | (simp [*]; done), by repeat (first | exact Drawn0.refl _ | apply Drawn0.step)⟩
    ·rw [if_neg c4] at H
     have c4b0 : decide (x5_1 < (l0.length : Int)) = false := decide_eq_false c4
     clear c4
     obtain rfl := Option.some.inj H
     go_wp2
     repeat (go_quiet (fail); try go_wp2)
     go_ret
     exact ⟨by first | rfl | (simp; done) | (simp [*]; done), by repeat (first | exact Drawn0.refl _ | apply Drawn0.step)⟩
 ·rw [if_neg c3] at H
  have c3b0 : ((l0.length : Int) == (l1.length : Int)) = false := beq_eq_false_iff_ne.mpr c3
  have c3b1 : ((l0.length : Int) != (l1.length : Int)) = true := bne_iff_ne.mpr c3
  have c3b2 : (l0.length == l1.length) = false := by first | simpa using c3 | (simp at c3 ⊢; omega)
  obtain rfl := Option.some.inj H
  go_enter Try.func17, Try.ntmps17
  go_wp2
  repeat (go_quiet (fail); try go_wp2)
  go_ret
  exact ⟨by first | rfl | (simp; done) | (simp [*]; done), by repeat (first | exact Drawn0.refl _ | apply Drawn0.step)⟩
end Go.Proofs.Ytpafhhgoldenoaa.P
end
section
namespace Go.Proofs.Ytpafhhgoldenoaa.P
open Go.RowKit Go.Proofs.YtpafhhgoldenoaaW.PrintWords Go.Proofs.YtpafhhgoldenoaaW.PrintLast Go.Proofs.YtpafhhgoldenoaaW.PrintMore
attribute [local go_sem] max2_int min2_int max_two min_two max_three min_three max_four min_four
set_option linter.unusedVariables false
set_option linter.unusedSimpArgs false
def slices_Reverse_int_int.l0 : Nat → List Int → Int → Int → Option (List Int)
 | 0, _, _, _ => none
 | k + 1, x0, x2, x3 => if x2 < x3 then (if 0 ≤ x3 then (if x3 < (x0.length : Int) then (if 0 ≤ x2 then (if x2 < (x0.length : Int) then (slices_Reverse_int_int.l0 k ((x0.set (x2 : Int).toNat (rd x0 x3)).set (x3 : Int).toNat (rd x0 x2)) (wrap64 (x2 + 1)) (wrap64 (x3 - 1))) else (none)) else (none)) else (none)) else (none)) else (some x0)
def slices_Reverse_int_int.f (k : Nat) (l0 : List Int) : Option (List Int) := slices_Reverse_int_int.l0 k l0 0 (wrap64 ((l0.length : Int) - 1))
theorem slices_Reverse_int_int.mono_l : ∀ k, (∀ y0 y1 y2, LeO (slices_Reverse_int_int.l0 k y0 y1 y2) (slices_Reverse_int_int.l0 (k + 1) y0 y1 y2))
 | 0 => fun _ _ _ r h => by simp [slices_Reverse_int_int.l0] at h
 | k + 1 => by
  have ih0 := slices_Reverse_int_int.mono_l k
  ·intro y0 y1 y2
   unfold slices_Reverse_int_int.l0
   repeat' first
   | (with_reducible exact ih0 _ _ _)
   | (with_reducible exact LeO.refl _)
   | (with_reducible exact LeO.none _)
   | (with_reducible refine LeO.ite ?_ ?_)
   | (with_reducible refine LeO.bind ?_ (fun _ => ?_))
   | exact ih0 _ _ _
   | exact LeO.none _
   | refine LeO.ite ?_ ?_
   | refine LeO.bind ?_ (fun _ => ?_)
theorem slices_Reverse_int_int.mono : ∀ a0 k, LeO (slices_Reverse_int_int.f k a0) (slices_Reverse_int_int.f (k + 1) a0) := by
 intro a0 k
 have ih0 := slices_Reverse_int_int.mono_l k
 unfold slices_Reverse_int_int.f
 repeat' first
   | (with_reducible exact ih0 _ _ _)
   | (with_reducible exact LeO.refl _)
   | (with_reducible exact LeO.none _)
   | (with_reducible refine LeO.ite ?_ ?_)
   | (with_reducible refine LeO.bind ?_ (fun _ => ?_))
   | exact ih0 _ _ _
   | exact LeO.none _
   | refine LeO.ite ?_ ?_
   | refine LeO.bind ?_ (fun _ => ?_)
def slices_Reverse_int_int.T3 : Bool × List (List Nat × List Nat) := (true, [([], []), ([], []), ([], []), ([], []), ([], []), ([], []), ([4, 5], [4, 5]), ([6], [6]), ([], []), ([], []), ([8, 9], [8, 9]), ([10], [10]), ([0, 1, 0, 1, 4, 5, 6, 7, 11], [0, 1]), ([12, 7, 0, 1, 4, 5, 6, 7, 11], [7, 12]), ([2, 3, 0, 1, 2, 3, 4, 5, 6, 7, 8, 9, 10, 11, 12, 13], [2, 3]), ([14, 11, 13, 0, 1, 2, 3, 4, 5, 6, 7, 8, 9, 10, 11, 12, 13], [11, 14])])
def slices_Reverse_int_int.B3 : List Nat := [0, 0, 0, 0, 0, 0, 48, 112, 0, 0, 768, 1792, 4083, 8179, 16383, 32767]
theorem slices_Reverse_int_int.tab3 : rtab .any (opsOf Try.f54 3) = slices_Reverse_int_int.T3 := by kernel_rfl
theorem slices_Reverse_int_int.bits3 : waitsOk slices_Reverse_int_int.T3.2 slices_Reverse_int_int.B3 = true := by kernel_rfl
set_option maxHeartbeats 8000000 in
set_option maxRecDepth 100000 in
theorem slices_Reverse_int_int.calls (k : Nat) (P0_ : Nat → Prop) (u9000_ : Value) (l0 : List Int) (r : List Int) (w0 w : World) (hB : Below w0.heap.size w0 w) (ho0 : Kd.R (Kd.int .i64) 3 w w0.heap.size P0_ u9000_ l0) (h : slices_Reverse_int_int.f k l0 = some r) :
  Calls Try.prog 54 #[u9000_] w fun e w' => e = .returned (.tuple #[]) ∧ Kd.R (Kd.int .i64) 3 w' w0.heap.size (fun k_ => (P0_ k_ ∨ w.heap.size ≤ k_)) u9000_ r ∧ Below w0.heap.size w0 w' ∧ Kept w w' (fun k_ => P0_ k_) := by
 have HO0 := Aside0.mk (show Kd.R (Kd.int .i64) 3 w w0.heap.size (fun k_ => (P0_ k_ ∨ w.heap.size ≤ k_)) u9000_ l0 from Kd.R_mono ho0 (fun k_ hk => (.inl hk)))
 have HK := Aside0.mk (Kept.refl w (fun k_ => P0_ k_))
 have HW0 := Aside0.mk hB.size
 have HB := Aside0.mk hB
 clear hB
 have H : (slices_Reverse_int_int.l0 k l0 0 (wrap64 ((l0.length : Int) - 1))) = some r := h
 clear h
 have H' := Aside0.mk H
 clear H
 obtain ⟨Ao2, co2, eo2⟩ := Kd.R_slice HO0.out
 subst eo2
 go_enter Try.func54, Try.ntmps54
 go_wp2
 go_loopg [2, 3] k (fun kq v2 v3 w' => ∃ (x0_1 : List Int) (x2_1 : Int) (x3_1 : Int), v2 = .int .i64 x2_1 ∧ v3 = .int .i64 x3_1 ∧ Aside0 (slices_Reverse_int_int.l0 kq x0_1 x2_1 x3_1 = some r) ∧ Aside0 (kq ≤ k) ∧ Aside0 (Kd.R (Kd.int .i64) 3 w' w0.heap.size (fun k_ => (P0_ k_ ∨ w.heap.size ≤ k_)) (.slice Ao2 l0.length co2) x0_1) ∧ Aside0 (Kept w w' (fun k_ => P0_ k_)) ∧ Aside0 (Below w0.heap.size w0 w'))
 case atStart => exact ⟨(l0), (0), (wrap64 ((l0.length : Int) - 1)), (by first | rfl | (simp; done) | (simp [*]; done)), (by first | rfl | (simp; done) | (simp [*]; done)), H', ⟨Nat.le_refl _⟩, ⟨by (with_reducible repeat (first | apply Kd.R_alloc | apply Kd.R_drewN | apply Kd.R_drew)); exact HO0.out⟩, ⟨by repeat (first | (with_reducible first | exact HK.out | apply Kept.alloc | apply Kept.drewN | apply Kept.drew) | exact HK.out)⟩, ⟨by repeat (first | (with_reducible first | exact HB.out | apply below_alloc | apply pw_below_drewN | apply below_drew1) | exact HB.out)⟩⟩
 case round =>
  clear H'
  try clear p2
  obtain ⟨x0_1, x2_1, x3_1, rfl, rfl, HA, HK1, HO_0, HK, HB⟩ := hrel
  have hl0_1 := (Kd.R_reads' HO_0.out).1
  rw [hl0_1] at HO_0
  (try simp only [hl0_1])
  cases gk with
  | zero => exact absurd HA.out (by simp [slices_Reverse_int_int.l0])
  | succ k1 =>
   have H := HA.out
   clear HA
   simp only [slices_Reverse_int_int.l0] at H
   by_cases c3 : x2_1 < x3_1
   ·rw [if_pos c3] at H
    have c3b0 : decide (x2_1 < x3_1) = true := decide_eq_true c3
    clear c3
    by_cases c4 : 0 ≤ x3_1
    rotate_left
    ·rw [if_neg c4] at H; exact absurd H (by simp)
    rw [if_pos c4] at H
    have c4b0 : decide (0 ≤ x3_1) = true := decide_eq_true c4
    clear c4
    by_cases c5 : x3_1 < (x0_1.length : Int)
    rotate_left
    ·rw [if_neg c5] at H; exact absurd H (by simp)
    rw [if_pos c5] at H
    have c5b0 : decide (x3_1 < (x0_1.length : Int)) = true := decide_eq_true c5
    clear c5
    by_cases c6 : 0 ≤ x2_1
    rotate_left
    ·rw [if_neg c6] at H; exact absurd H (by simp)
    rw [if_pos c6] at H
    have c6b0 : decide (0 ≤ x2_1) = true := decide_eq_true c6
    clear c6
    by_cases c7 : x2_1 < (x0_1.length : Int)
    rotate_left
    ·rw [if_neg c7] at H; exact absurd H (by simp)
    rw [if_pos c7] at H
    have c7b0 : decide (x2_1 < (x0_1.length : Int)) = true := decide_eq_true c7
    clear c7
    obtain ⟨y127, hy127⟩ : ∃ y_ : List Int, y_ = (x0_1.set (x2_1 : Int).toNat (rd x0_1 x3_1)) := ⟨_, rfl⟩
    replace H : (slices_Reverse_int_int.l0 k1 (y127.set (x3_1 : Int).toNat (rd x0_1 x2_1)) (wrap64 (x2_1 + 1)) (wrap64 (x3_1 - 1))) = some r := by first | (rw [hy127]; with_reducible exact H) | (have H2_ := (Option.bind_some _ _).symm.trans H; rw [hy127]; with_reducible exact H2_) | (have H2_ := (Option.bind_some _ _).symm.trans H; with_reducible exact H2_) | with_reducible exact H | (rw [hy127]; exact H) | exact H
    have Ny127 := Aside0.mk hy127
    clear hy127
    obtain ⟨y128, hy128⟩ : ∃ y_ : List Int, y_ = (y127.set (x3_1 : Int).toNat (rd x0_1 x2_1)) := ⟨_, rfl⟩
    replace H : (slices_Reverse_int_int.l0 k1 y128 (wrap64 (x2_1 + 1)) (wrap64 (x3_1 - 1))) = some r := by first | (rw [hy128]; with_reducible exact H) | (have H2_ := (Option.bind_some _ _).symm.trans H; rw [hy128]; with_reducible exact H2_) | (have H2_ := (Option.bind_some _ _).symm.trans H; with_reducible exact H2_) | with_reducible exact H | (rw [hy128]; exact H) | exact H
    have Ny128 := Aside0.mk hy128
    clear hy128
    have H' := Aside0.mk H
    clear H
    try go_wp2
    have n0_ := Aside0.mk (Kd.R_drew HO_0.out)
    have n1_ := Aside0.mk (Kept.drew HK.out)
    have n2_ := Aside0.mk (below_drew1 HB.out)
    clear HO_0
    clear HK
    clear HB
    have HO_0 := n0_
    have HK := n1_
    have HB := n2_
    clear n0_ n1_ n2_
    have p125 : 0 ≤ (x3_1 : Int) := of_decide_eq_true (by first | (with_reducible assumption) | assumption)
    have q125 : x3_1 < (x0_1.length : Int) := of_decide_eq_true (by first | (with_reducible assumption) | assumption)
    obtain ⟨ad125, e125, hx125_0⟩ := Kd.at_int (Kd.R_reads' HO_0.out).2.2 x3_1 p125 q125
    cases e125
    replace p125 := eq_true p125
    replace q125 := eq_true q125
    have p126 : 0 ≤ (x2_1 : Int) := of_decide_eq_true (by first | (with_reducible assumption) | assumption)
    have q126 : x2_1 < (x0_1.length : Int) := of_decide_eq_true (by first | (with_reducible assumption) | assumption)
    obtain ⟨ad126, e126, hx126_0⟩ := Kd.at_int (Kd.R_reads' HO_0.out).2.2 x2_1 p126 q126
    obtain rfl : ad125 = ad126 := (by injection e126)
    replace p126 := eq_true p126
    replace q126 := eq_true q126
    have p8 : 0 ≤ (x2_1 : Int) := of_decide_eq_true (by first | (with_reducible assumption) | assumption)
    have q8 : (x2_1 : Int) < ((x0_1.length : Int) : Int) := of_decide_eq_true (by first | (with_reducible assumption) | assumption)
    obtain ⟨go8, co8, eo8, gb8, gl8, cl8, HG8⟩ := Kd.R_form HO_0.out (by omega)
    (first | cases eo8 | (injection eo8 with ea_ en_ ec_; (first | subst ea_ | (injection ea_ with ea_; subst ea_)); subst ec_; clear en_))
    have GB8 := Aside0.mk gb8
    have GG8 := Aside0.mk HG8
    clear gb8 gl8 HG8
    have HMgo8 := Aside0.mk (show (P0_ go8 ∨ w.heap.size ≤ go8) from (HO_0.out.1 _ rfl))
    (first | simp only [add_plain] at hx125_0 | skip)
    (first | simp only [add_plain] at hx126_0 | skip)
    obtain ⟨hx8_0, hf8_0⟩ := Kd.R_celln 0 HO_0.out (x2_1 : Int) p8 q8
    replace p8 := eq_true p8
    replace q8 := eq_true q8
    have HP11 := Kd.R_putn HO_0.out (x2_1 : Int) (rd x0_1 x3_1)
    rw [← Ny127.out] at HP11
    have HQ11 := Aside0.mk HP11
    clear HP11
    have p9 : 0 ≤ (x3_1 : Int) := of_decide_eq_true (by first | (with_reducible assumption) | assumption)
    have q9 : (x3_1 : Int) < ((x0_1.length : Int) : Int) := of_decide_eq_true (by first | (with_reducible assumption) | assumption)
    obtain ⟨hx9_0, hf9_0⟩ := Kd.R_celln 0 HQ11.out (x3_1 : Int) p9 q9
    replace p9 := eq_true p9
    replace q9 := eq_true q9
    have HP12 := Kd.R_putn HQ11.out (x3_1 : Int) (rd x0_1 x2_1)
    rw [← Ny128.out] at HP12
    have HQ12 := Aside0.mk HP12
    clear HP12
    refine start_ (n := 16) (S := fun w' => w'.cell? ⟨go8, (x3_1).toNat, none⟩ = some (.int .i64 (rd x0_1 x3_1)) ∧ w'.cell? ⟨go8, (x2_1).toNat, none⟩ = some (.int .i64 (rd x0_1 x2_1))) (ds := [13, 15]) #[false, false, false, false, false, false, false, false, false, false, false, false, false, false, false, false] (by kernel_rfl) rfl rfl ⟨hx125_0, hx126_0⟩ (fun hHeld => ?_); refine with_tabW slices_Reverse_int_int.tab3 slices_Reverse_int_int.bits3 (fun HT_ HW_ => ?_)
    generalize wr.drew = w10 at HO_0 HK HB GG8 HQ11 HQ12 hf8_0 hf9_0 hx125_0 hx126_0 hx8_0 hx9_0 hHeld ⊢
    refine pure_ (i := 0) (N := some 14) (v := ?_) (a' := ?_) #[true, false, false, false, false, false, false, false, false, false, false, false, false, false, false, false] rfl rfl (any_of HT_.out (by kernel_rfl)) (fun _ _ _ h => h) (Or.inl ⟨by rfl, ?_⟩) ?_ ?_
    rotate_left
    ·intro w'
     go_simp
     with_reducible rfl
    rotate_left
    ·simp only [Act.put, List.setIfInBounds_toArray, List.set_cons_zero, List.set_cons_succ, i64_w, i32_w]
     rfl
    refine pure_ (i := 1) (N := some 15) (v := ?_) (a' := ?_) #[true, true, false, false, false, false, false, false, false, false, false, false, false, false, false, false] rfl rfl (any_of HT_.out (by kernel_rfl)) (fun _ _ _ h => h) (Or.inl ⟨by rfl, ?_⟩) ?_ ?_
    rotate_left
    ·intro w'
     go_simp
     with_reducible rfl
    rotate_left
    ·simp only [Act.put, List.setIfInBounds_toArray, List.set_cons_zero, List.set_cons_succ, i64_w, i32_w]
     rfl
    refine pure_ (i := 2) (N := some 16) (v := ?_) (a' := ?_) #[true, true, true, false, false, false, false, false, false, false, false, false, false, false, false, false] rfl rfl (any_of HT_.out (by kernel_rfl)) (fun _ _ _ h => h) (Or.inl ⟨by rfl, ?_⟩) ?_ ?_
    rotate_left
    ·intro w'
     go_simp
     with_reducible rfl
    rotate_left
    ·simp only [Act.put, List.setIfInBounds_toArray, List.set_cons_zero, List.set_cons_succ, i64_w, i32_w]
     rfl
    refine pure_ (i := 3) (N := some 17) (v := ?_) (a' := ?_) #[true, true, true, true, false, false, false, false, false, false, false, false, false, false, false, false] rfl rfl (any_of HT_.out (by kernel_rfl)) (fun _ _ _ h => h) (Or.inl ⟨by rfl, ?_⟩) ?_ ?_
    rotate_left
    ·intro w'
     go_simp
     with_reducible rfl
    rotate_left
    ·simp only [Act.put, List.setIfInBounds_toArray, List.set_cons_zero, List.set_cons_succ, i64_w, i32_w]
     rfl
    refine pure_ (i := 4) (N := some 18) (v := ?_) (a' := ?_) #[true, true, true, true, true, false, false, false, false, false, false, false, false, false, false, false] rfl rfl (any_of HT_.out (by kernel_rfl)) (fun _ _ _ h => h) (Or.inl ⟨by rfl, ?_⟩) ?_ ?_
    rotate_left
    ·intro w'
     go_simp
     with_reducible rfl
    rotate_left
    ·simp only [Act.put, List.setIfInBounds_toArray, List.set_cons_zero, List.set_cons_succ, i64_w, i32_w]
     rfl
    refine pure_ (i := 5) (N := some 19) (v := ?_) (a' := ?_) #[true, true, true, true, true, true, false, false, false, false, false, false, false, false, false, false] rfl rfl (any_of HT_.out (by kernel_rfl)) (fun _ _ _ h => h) (Or.inl ⟨by rfl, ?_⟩) ?_ ?_
    rotate_left
    ·intro w'
     go_simp
     with_reducible rfl
    rotate_left
    ·simp only [Act.put, List.setIfInBounds_toArray, List.set_cons_zero, List.set_cons_succ, i64_w, i32_w]
     rfl
    refine pure_ (i := 6) (N := some 20) (v := ?_) (a' := ?_) #[true, true, true, true, true, true, true, false, false, false, false, false, false, false, false, false] rfl rfl (any_of HT_.out (by kernel_rfl)) (fun _ _ _ h => h) (Or.inl ⟨by rfl, ?_⟩) ?_ ?_
    rotate_left
    ·intro w'
     go_simp
     with_reducible rfl
    rotate_left
    ·simp only [Act.put, List.setIfInBounds_toArray, List.set_cons_zero, List.set_cons_succ, i64_w, i32_w]
     rfl
    refine pure_ (i := 8) (N := some 22) (v := ?_) (a' := ?_) #[true, true, true, true, true, true, true, false, true, false, false, false, false, false, false, false] rfl rfl (any_of HT_.out (by kernel_rfl)) (fun _ _ _ h => h) (Or.inl ⟨by rfl, ?_⟩) ?_ ?_
    rotate_left
    ·intro w'
     go_simp
     with_reducible rfl
    rotate_left
    ·simp only [Act.put, List.setIfInBounds_toArray, List.set_cons_zero, List.set_cons_succ, i64_w, i32_w]
     rfl
    refine pure_ (i := 9) (N := some 23) (v := ?_) (a' := ?_) #[true, true, true, true, true, true, true, false, true, true, false, false, false, false, false, false] rfl rfl (any_of HT_.out (by kernel_rfl)) (fun _ _ _ h => h) (Or.inl ⟨by rfl, ?_⟩) ?_ ?_
    rotate_left
    ·intro w'
     go_simp
     with_reducible rfl
    rotate_left
    ·simp only [Act.put, List.setIfInBounds_toArray, List.set_cons_zero, List.set_cons_succ, i64_w, i32_w]
     rfl
    refine pure_ (i := 10) (N := some 24) (v := ?_) (a' := ?_) #[true, true, true, true, true, true, true, false, true, true, true, false, false, false, false, false] rfl rfl (any_of HT_.out (by kernel_rfl)) (fun _ _ _ h => h) (Or.inl ⟨by rfl, ?_⟩) ?_ ?_
    rotate_left
    ·intro w'
     go_simp
     with_reducible rfl
    rotate_left
    ·simp only [Act.put, List.setIfInBounds_toArray, List.set_cons_zero, List.set_cons_succ, i64_w, i32_w]
     rfl
    refine take_ (i := 7) (N := some 21) (v := ?_) (a' := ?_) #[true, true, true, true, true, true, true, true, true, true, true, false, false, false, false, false] rfl rfl (take_ofW HT_.out HW_.out (by kernel_rfl)) (fun _ _ _ h => h) (Or.inl ⟨by rfl, ?_⟩) hHeld ?_ ?_
    rotate_left
    ·rintro w' ⟨s0, s1⟩
     go_simp
     with_reducible rfl
    rotate_left
    ·simp only [Act.put, List.setIfInBounds_toArray, List.set_cons_zero, List.set_cons_succ, i64_w, i32_w]
     rfl
    refine take_ (i := 11) (N := some 25) (v := ?_) (a' := ?_) #[true, true, true, true, true, true, true, true, true, true, true, true, false, false, false, false] rfl rfl (take_ofW HT_.out HW_.out (by kernel_rfl)) (fun _ _ _ h => h) (Or.inl ⟨by rfl, ?_⟩) hHeld ?_ ?_
    rotate_left
    ·rintro w' ⟨s0, s1⟩
     go_simp
     with_reducible rfl
    rotate_left
    ·simp only [Act.put, List.setIfInBounds_toArray, List.set_cons_zero, List.set_cons_succ, i64_w, i32_w]
     rfl
    refine pure_ (i := 12) (N := some 26) (v := ?_) (a' := ?_) #[true, true, true, true, true, true, true, true, true, true, true, true, true, false, false, false] rfl rfl (any_of HT_.out (by kernel_rfl)) (fun _ _ _ h => h) (Or.inl ⟨by rfl, ?_⟩) ?_ ?_
    rotate_left
    ·intro w'
     go_simp
     with_reducible rfl
    rotate_left
    ·simp only [Act.put, List.setIfInBounds_toArray, List.set_cons_zero, List.set_cons_succ, i64_w, i32_w]
     rfl
    refine last_ (i := 13) (N := none) #[true, true, true, true, true, true, true, true, true, true, true, true, true, true, false, false] rfl rfl (one_of HT_.out (by kernel_rfl)) (by decide) (fun K hK => ?_)
    refine skip_ (w1 := ?_) (by rfl) rfl ?_ ?_
    rotate_left
    ·go_simp
     rfl
    refine hK.out _ _ ?_
    clear hK K
    refine pure_ (i := 14) (N := some 27) (v := ?_) (a' := ?_) #[true, true, true, true, true, true, true, true, true, true, true, true, true, true, true, false] rfl rfl (any_of HT_.out (by kernel_rfl)) (fun _ _ _ h => h) (Or.inl ⟨by rfl, ?_⟩) ?_ ?_
    rotate_left
    ·intro w'
     go_simp
     with_reducible rfl
    rotate_left
    ·simp only [Act.put, List.setIfInBounds_toArray, List.set_cons_zero, List.set_cons_succ, i64_w, i32_w]
     rfl
    refine last_ (i := 15) (N := none) #[true, true, true, true, true, true, true, true, true, true, true, true, true, true, true, true] rfl rfl (one_of HT_.out (by kernel_rfl)) (by decide) (fun K hK => ?_)
    refine skip_ (w1 := ?_) (by rfl) rfl ?_ ?_
    rotate_left
    ·go_simp
     rfl
    refine hK.out _ _ ?_
    clear hK K
    refine done_ (done_of HT_.out (by kernel_rfl)) ?_
    try go_wp2
    (try simp only [← hl0_1])
    go_roundg k1
    case measure => have := HK1.out; omega
    case rel => exact ⟨(y128), (wrap64 (x2_1 + 1)), (wrap64 (x3_1 - 1)), (by first | rfl | (simp; done) | (simp [*]; done)), (by first | rfl | (simp; done) | (simp [*]; done)), H', ⟨by have := HK1.out; omega⟩, ⟨by (try simp only [hl0_1]); (with_reducible repeat (first | apply Kd.R_alloc | apply Kd.R_drewN | apply Kd.R_drew)); exact HQ12.out⟩, ⟨by repeat (first | (with_reducible first | exact HK.out | apply Kept.alloc | apply Kept.drewN | apply Kept.drew | refine Kept.setCell ?_ HMgo8.out _ | refine Kept.setCell ?_ HMgo8.out _) | exact HK.out)⟩, ⟨by repeat (first | (with_reducible first | exact HB.out | apply below_alloc | apply pw_below_drewN | apply below_drew1 | refine below_set ?_ GB8.out | refine below_set ?_ GB8.out) | exact HB.out)⟩⟩
   ·rw [if_neg c3] at H
    have c3b0 : decide (x2_1 < x3_1) = false := decide_eq_false c3
    clear c3
    obtain rfl := Option.some.inj H
    go_wp2
    first | go_end0 | ((try simp only [Exit.inBlock, Exit.then]); refine bodyPost_ret (results_none rfl _ _ _) rfl ?_)
    exact ⟨by first | rfl | (simp [errW_none, errW_some] <;> rfl) | (simp [*, errW_none, errW_some] <;> rfl), (by first | exact (by (with_reducible repeat (first | apply Kd.R_alloc | apply Kd.R_drewN | apply Kd.R_drew)); exact HO_0.out) | (simp only [hl0_1]; exact (by (with_reducible repeat (first | apply Kd.R_alloc | apply Kd.R_drewN | apply Kd.R_drew)); exact HO_0.out))), by repeat (first | (with_reducible first | exact HB.out | apply below_alloc | apply pw_below_drewN | apply below_drew1) | exact HB.out), by repeat (first | (with_reducible first | exact HK.out | apply Kept.alloc | apply Kept.drewN | apply Kept.drew) | exact HK.out)⟩
end Go.Proofs.Ytpafhhgoldenoaa.P
end
section
namespace Go.Proofs.Ytpafhhgoldenoaa.P
open Go.RowKit Go.Proofs.YtpafhhgoldenoaaW.PrintWords Go.Proofs.YtpafhhgoldenoaaW.PrintLast Go.Proofs.YtpafhhgoldenoaaW.PrintMore
set_option linter.unusedVariables false
set_option linter.unusedSimpArgs false
def upIdx (l : List S24) (g : Nat) : Option Nat := (List.range g).find? (fun k => decide ((rd_T24 l k).f0 = (rd_T24 l g).f1))
def pathUp (l : List S24) : Nat → Nat → List Int
 | 0, g => [(rd_T24 l g).f0]
 | n + 1, g => (rd_T24 l g).f0 :: (if (rd_T24 l g).f1 = 0 then [] else match upIdx l g with | some k => pathUp l n k | none => [])
def pathP (l : List S24) (i : Nat) : List Int := (pathUp l i i).reverse
theorem upIdx_some {l : List S24} {g k : Nat} (hk : k < g) (h : (rd_T24 l k).f0 = (rd_T24 l g).f1) (hn : ∀ j, j < k → (rd_T24 l j).f0 ≠ (rd_T24 l g).f1) : upIdx l g = some k := by
 unfold upIdx
 rw [List.find?_eq_some_iff_getElem]
 refine ⟨by simpa using h, k, by simpa using hk, by simp, fun j hj => by simpa using hn j hj⟩
theorem upIdx_none {l : List S24} {g : Nat} (hn : ∀ j, j < g → (rd_T24 l j).f0 ≠ (rd_T24 l g).f1) : upIdx l g = none := by
 unfold upIdx
 simp only [List.find?_eq_none, List.mem_range, decide_eq_true_eq]
 exact hn
theorem set_mid {α : Type} (A : List α) (x y : α) (B : List α) (n : Nat) (h : A.length = n) : (A ++ x :: B).set n y = A ++ y :: B := by
 subst h
 simp
theorem rd_mid (A : List Int) (x : Int) (B : List Int) (n : Int) (h : (A.length : Int) = n) : rd (A ++ x :: B) n = x := by
 subst h
 simp [rd]
theorem reverse_go (n : Nat) : ∀ (m : Nat) (M A B : List Int) (i j : Int) (k : Nat), M.length ≤ m → (A.length : Int) = i → (B.length : Int) = i → j = i + M.length - 1 → A.length + M.length + B.length = n → n ≤ 1000000 → m < k →
  slices_Reverse_int_int.l0 k (A ++ M ++ B) i j = some (A ++ M.reverse ++ B) := by
 intro m
 induction m with
 | zero =>
  intro M A B i j k hM hA hB hj hn hb hk
  obtain ⟨k, rfl⟩ : ∃ q, k = q + 1 := ⟨k - 1, by omega⟩
  obtain rfl : M = [] := List.length_eq_zero_iff.1 (by omega)
  simp only [slices_Reverse_int_int.l0]
  rw [if_neg (by simp at hj; omega)]
  simp
 | succ m ih =>
  intro M A B i j k hM hA hB hj hn hb hk
  obtain ⟨k, rfl⟩ : ∃ q, k = q + 1 := ⟨k - 1, by omega⟩
  by_cases h2 : 2 ≤ M.length
  ·cases M with
   | nil => simp at h2
   | cons x M =>
    have hne : M ≠ [] := by intro e; simp [e] at h2
    obtain ⟨M', y, rfl⟩ : ∃ M' y, M = M' ++ [y] := ⟨M.dropLast, M.getLast hne, (List.dropLast_concat_getLast hne).symm⟩
    simp only [List.length_cons, List.length_append, List.length_nil] at hj hM hn h2
    have e1 : A ++ (x :: (M' ++ [y])) ++ B = A ++ x :: (M' ++ y :: B) := by simp
    have e2 : A ++ x :: (M' ++ y :: B) = (A ++ x :: M') ++ y :: B := by simp
    have l1 : ((A ++ x :: M').length : Int) = j := by simp; omega
    simp only [slices_Reverse_int_int.l0]
    rw [e1, if_pos (by omega), if_pos (by omega), if_pos (by simp; omega), if_pos (by omega), if_pos (by simp; omega), rd_mid A x _ i hA]
    rw [show rd (A ++ x :: (M' ++ y :: B)) j = y from by rw [e2]; exact rd_mid _ _ _ _ l1]
    rw [set_mid A x y _ i.toNat (by omega)]
    have e3 : A ++ y :: (M' ++ y :: B) = (A ++ y :: M') ++ y :: B := by simp
    rw [e3, set_mid (A ++ y :: M') y x B j.toNat (by simp; omega)]
    have w1 : wrap64 (i + 1) = i + 1 := by unfold wrap64; omega
    have w2 : wrap64 (j - 1) = j - 1 := by unfold wrap64; omega
    rw [w1, w2]
    have := ih M' (A ++ [y]) (x :: B) (i + 1) (j - 1) k (by omega) (by simp; omega) (by simp; omega) (by omega) (by simp; omega) hb (by omega)
    rw [show (A ++ y :: M') ++ x :: B = (A ++ [y]) ++ M' ++ (x :: B) from by simp, this]
    simp
  ·simp only [slices_Reverse_int_int.l0]
   rw [if_neg (by omega)]
   have : M.reverse = M := by
    match M, h2 with
    | [], _ => rfl
    | [x], _ => rfl
    | _ :: _ :: _, h => simp at h
   rw [this]
theorem reverse_f (l : List Int) (h : l.length ≤ 1000000) : slices_Reverse_int_int.f (l.length + 1) l = some l.reverse := by
 unfold slices_Reverse_int_int.f
 have w1 : wrap64 ((l.length : Int) - 1) = (l.length : Int) - 1 := by unfold wrap64; omega
 rw [w1]
 have := reverse_go l.length l.length l [] [] 0 ((l.length : Int) - 1) (l.length + 1) (Nat.le_refl _) rfl rfl (by omega) (by simp) h (by omega)
 simpa using this
theorem pathUp_le (l : List S24) : ∀ n g, (pathUp l n g).length ≤ n + 1
 | 0, g => by simp [pathUp]
 | n + 1, g => by
  simp only [pathUp, List.length_cons]
  split
  ·simp
  ·split
   ·have := pathUp_le l n ‹_›; omega
   ·simp
theorem reps_one {α : Type} {R : α → List Value → Prop} (x : α) (cs : List Value) (h : R x cs) : Reps R cs.length [x] cs := by
 refine ⟨by simp, fun j p hj => ?_⟩
 cases j with
 | zero => simp at hj; subst hj; simpa using h
 | succ j => simp at hj
set_option maxHeartbeats 4000000 in
set_option maxRecDepth 100000 in
theorem path_calls (A0 : Option Addr) (c0 : Nat) (l0 : List S24) (i : Nat) (w : World) (hr0 : Kd.C k24 w A0 l0.length l0) (hc0 : l0.length ≤ c0) (hi : i < l0.length) (hl : l0.length ≤ 4000) :
  Calls Try.prog 40 #[.slice A0 l0.length c0, .int .i64 i] w fun e w' => ∃ v0_ : Value, e = .returned v0_ ∧ Kd.R (Kd.int .i64) 3 w' w.heap.size (fun _ => True) v0_ (pathP l0 i) ∧ Below w.heap.size w w' := by
 have HR := Aside0.mk hr0
 clear hr0
 obtain ⟨ad, e, x0, x1, x2, x3, x4⟩ := at_T24 HR.out i (by omega) (by omega)
 cases e
 simp only [Int.toNat_natCast] at x0 x1 x2 x3 x4
 have i1 : (0 : Int) ≤ i := by omega
 have i2 : (i : Int) < l0.length := by omega
 have HB := Aside0.mk (Below.refl w.heap.size w)
 go_enter Try.func40, Try.ntmps40
 go_wp2
 go_step3
 go_wp2_with (first | ((with_reducible refine gate_dst (N := 12) rfl ?_); refine Kd.R_lit (w0 := w) (Kd.int .i64) w.heap.size 3 ?hg (N := 12) ?hd (xs := [(rd_T24 l0 i).f0]) (inner := [.int .i64 (rd_T24 l0 i).f0]) (ok := fun _ => True) (okp := fun _ => True) ?hr ?hp (fun _ hk => hk) trivial HB.out (Nat.le_refl _) (by simp) ?_; (case hd => rfl); (case hg => rfl); (case hr => first | (go_simp; done) | (go_simp; rfl)); (case hp => exact reps_one _ _ rfl); intro v12 w12 ho hb _ _; have HO := Aside0.mk ho; have HB2 := Aside0.mk hb; clear ho hb))
 go_step3
 go_wp2
 clear x0 x1 x2 x3 x4 i1 i2 HB
 go_loopg [1, 5] i (fun g v1 v5 w' => ∃ (q : Nat) (acc : List Int), v1 = .int .i64 q ∧ q ≤ g ∧ q < l0.length ∧ acc.length + g ≤ i ∧ Aside0 (acc ++ pathUp l0 g q = pathUp l0 i i) ∧ Aside0 (Kd.R (Kd.int .i64) 3 w' w.heap.size (fun _ => True) v5 (acc ++ [(rd_T24 l0 q).f0])) ∧ Aside0 (Below w.heap.size w w'))
 case atStart => exact ⟨i, [], rfl, Nat.le_refl _, hi, by simp, ⟨rfl⟩, HO, HB2⟩
 case round =>
  clear HO HB2
  obtain ⟨q, acc, rfl, hq1, hq2, hacc, HA, HO, HB⟩ := hrel
  obtain ⟨ad, e, x0, x1, x2, x3, x4⟩ := at_T24 (Kd.C_below HR.out HB.out) q (by omega) (by omega)
  cases e
  simp only [Int.toNat_natCast] at x0 x1 x2 x3 x4
  have i1 : (0 : Int) ≤ q := by omega
  have i2 : (q : Int) < l0.length := by omega
  by_cases hp : (rd_T24 l0 q).f1 = 0
  ·have hpb : ((rd_T24 l0 q).f1 != 0) = false := by simpa using hp
   have hend : Aside0 (acc ++ [(rd_T24 l0 q).f0] = pathUp l0 i i) := ⟨by
    rw [← HA.out]
    cases gk with
    | zero => rfl
    | succ n => simp only [pathUp]; rw [if_pos hp]⟩
   clear hp x0 x2 x3 x4
   have hre : Aside0 (slices_Reverse_int_int.f ((pathUp l0 i i).length + 1) (pathUp l0 i i) = some (pathP l0 i)) := ⟨reverse_f _ (by have := pathUp_le l0 i i; omega)⟩
   go_wp2_with (first | (go_at_call 54; (with_reducible refine (slices_Reverse_int_int.calls ((pathUp l0 i i).length + 1) (fun _ => True) _ (pathUp l0 i i) (pathP l0 i) w _ HB.out (by rw [← hend.out]; exact HO.out) hre.out).mono ?_); rintro e w3 ⟨rfl, ho3, hb3, _⟩; have HO3 := Aside0.mk ho3; have HB3 := Aside0.mk hb3; clear ho3 hb3))
   try rw [Exit.noGoto_ret]
   go_ret
   exact ⟨_, rfl, Kd.R_mono HO3.out (fun _ _ => trivial), HB3.out⟩
  ·have hpb : ((rd_T24 l0 q).f1 != 0) = true := by simpa using hp
   go_wp2
   clear i1 i2
   obtain ⟨wo, rfl⟩ : ∃ wo : World, wo = wr := ⟨_, rfl⟩
   obtain ⟨G, rfl⟩ : ∃ G : Nat, G = gk := ⟨_, rfl⟩
   have X1 := Aside0.mk x1
   clear x0 x1 x2 x3 x4
   go_loopg [1, 5, 6, 20] q (fun d v1 v5 _ v20 w' => ∃ k : Nat, v1 = .int .i64 q ∧ v20 = .int .i64 k ∧ Aside0 (Kd.R (Kd.int .i64) 3 w' w.heap.size (fun _ => True) v5 (acc ++ [(rd_T24 l0 q).f0])) ∧ d = q - k ∧ k ≤ q ∧ Aside0 (∀ j, j < k → (rd_T24 l0 j).f0 ≠ (rd_T24 l0 q).f1) ∧ Drawn0 wo w')
   case atStart => exact ⟨0, rfl, rfl, HO, rfl, by omega, ⟨fun j hj => by omega⟩, Drawn0.refl _⟩
   case round =>
    obtain ⟨k, rfl, rfl, HOr, hd, hk, HN, hdr⟩ := hrel
    have HBr := Aside0.mk (HB.out.trans (hdr.below.mono HB.out.size))
    have x1 := (hdr.below.cell (p := ⟨(ad.add (q * 5)).block, (ad.add (q * 5)).off + 1, none⟩) (World.block_lt_of_cell? wo _ X1.out)).trans X1.out
    clear HO
    have HDR := Aside0.mk hdr
    clear hdr
    by_cases hkq : k < q
    ·obtain ⟨ad2, e, y0, _, _, _, _⟩ := at_T24 (Kd.C_below HR.out HBr.out) k (by omega) (by omega)
     obtain rfl : ad = ad2 := by injection e
     clear e
     simp only [Int.toNat_natCast] at y0
     have i1 : (0 : Int) ≤ q := by omega
     have i2 : (q : Int) < l0.length := by omega
     have i3 : (0 : Int) ≤ k := by omega
     have i4 : (k : Int) < l0.length := by omega
     by_cases he : (rd_T24 l0 k).f0 = (rd_T24 l0 q).f1
     ·have heb : ((rd_T24 l0 k).f0 == (rd_T24 l0 q).f1) = true := by simpa using he
      cases G with
      | zero => omega
      | succ n =>
       have hA2 : Aside0 ((acc ++ [(rd_T24 l0 q).f0]) ++ pathUp l0 n k = pathUp l0 i i) := ⟨by
        rw [← HA.out]
        simp only [pathUp]
        rw [if_neg hp, upIdx_some hkq he HN.out]
        simp⟩
       have hlen : Aside0 (((acc ++ [(rd_T24 l0 q).f0]).length + 1) * 8 ≤ 140737488355328) := ⟨by simp; omega⟩
       clear he hp
       go_wp2
       go_quiet (fail)
       go_wp2_with (first | ((with_reducible refine gate_builtin (b := .append) (xs := #[.tmp 34, .tmp 40]) rfl ?_); at_builtin; refine Kd.R_append (Kd.int .i64) (w0 := w) w.heap.size rfl (.tmp 34) (.tmp 40) 30 3 (.int .i64 0) 8 rfl Try.underlying30 info3 rfl (by decide) (by omega) _ (acc ++ [(rd_T24 l0 q).f0]) ((rd_T24 l0 k).f0) [.int .i64 ((rd_T24 l0 k).f0)] (fun _ => True) (fun _ => False) rfl rfl rfl (fun _ hk => hk.elim) (fun _ _ => trivial) ?aO ?aB ?aS hlen.out ?_; (case aO => first | exact HOr.out | exact Kd.R_drewN HOr.out _ | exact Kd.R_drew HOr.out); (case aB => first | exact HBr.out | exact pw_below_drewN HBr.out _ | exact below_drew1 HBr.out); (case aS => exact HBr.out.size); intro v1 w5 ho5 hb5 hg5 _; have HO5 := Aside0.mk ho5; have HB5 := Aside0.mk hb5; clear ho5 hb5 hg5))
       go_roundg n
       case measure => omega
       case rel => exact ⟨k, _, rfl, by omega, by omega, by simp; omega, hA2, HO5, HB5⟩
     ·have heb : ((rd_T24 l0 k).f0 == (rd_T24 l0 q).f1) = false := by simpa using he
      have HN2 : Aside0 (∀ j, j < k + 1 → (rd_T24 l0 j).f0 ≠ (rd_T24 l0 q).f1) := ⟨fun j hj => by
       by_cases e : j = k
       ·subst e; exact he
       ·exact HN.out j (by omega)⟩
      clear he
      go_wp2
      go_quiet (fail)
      go_wp2
      go_roundg (q - (k + 1))
      case measure => omega
      case rel => exact ⟨k + 1, rfl, by go_num, ⟨Kd.R_drewN HOr.out _⟩, rfl, by omega, HN2, HDR.out.step _⟩
    ·obtain rfl : k = q := by omega
     have hend : Aside0 (acc ++ [(rd_T24 l0 k).f0] = pathUp l0 i i) := ⟨by
      rw [← HA.out]
      cases G with
      | zero => rfl
      | succ n => simp only [pathUp]; rw [if_neg hp, upIdx_none HN.out]⟩
     have hre : Aside0 (slices_Reverse_int_int.f ((pathUp l0 i i).length + 1) (pathUp l0 i i) = some (pathP l0 i)) := ⟨reverse_f _ (by have := pathUp_le l0 i i; omega)⟩
     clear hp x1
     go_wp2_with (first | (go_at_call 54; (with_reducible refine (slices_Reverse_int_int.calls ((pathUp l0 i i).length + 1) (fun _ => True) _ (pathUp l0 i i) (pathP l0 i) w _ HBr.out (by rw [← hend.out]; exact HOr.out) hre.out).mono ?_); rintro e w3 ⟨rfl, ho3, hb3, _⟩; have HO3 := Aside0.mk ho3; have HB3 := Aside0.mk hb3; clear ho3 hb3))
     try rw [Exit.noGoto_ret]
     go_ret
     exact ⟨_, rfl, Kd.R_mono HO3.out (fun _ _ => trivial), HB3.out⟩
def tree_path.f (l0 : List S24) (a1 : Int) : Option (List Int) := if 0 ≤ a1 ∧ a1 < l0.length ∧ l0.length ≤ 4000 then some (pathP l0 a1.toNat) else none
theorem tree_path.calls (A0 : Option Addr) (c0 : Nat) (l0 : List S24) (a1 : Int) (r : List Int) (w : World) (hr0 : Kd.C k24 w A0 l0.length l0) (hc0 : l0.length ≤ c0) (h : tree_path.f l0 a1 = some r) :
  Calls Try.prog 40 #[.slice A0 l0.length c0, .int .i64 a1] w fun e w' => ∃ v0_ : Value, e = .returned (v0_) ∧ Kd.R (Kd.int .i64) 3 w' w.heap.size (fun _ => True) v0_ r ∧ Below w.heap.size w w' := by
 unfold tree_path.f at h
 split at h
 ·rename_i hc
  obtain rfl := Option.some.inj h
  obtain ⟨n, rfl⟩ := Int.eq_ofNat_of_zero_le hc.1
  exact path_calls A0 c0 l0 n w hr0 hc0 (by omega) hc.2.2
 ·cases h
end Go.Proofs.Ytpafhhgoldenoaa.P
end
section
namespace Go.Proofs.Ytpafhhgoldenoaa.P
open Go.RowKit Go.Proofs.YtpafhhgoldenoaaW.PrintWords Go.Proofs.YtpafhhgoldenoaaW.PrintLast Go.Proofs.YtpafhhgoldenoaaW.PrintMore
attribute [local go_sem] max2_int min2_int max_two min_two max_three min_three max_four min_four
set_option linter.unusedVariables false
set_option linter.unusedSimpArgs false
def tree_Path.f (l0 : List (S24)) (a1 : Int) : Option (List Int × Int) := (tree_get.f l0 a1).bind fun bt129 => (if bt129.2 = 0 then ((tree_path.f l0 bt129.1).bind fun t131 => (some (t131, 0))) else (some (([] : List Int), bt129.2)))
set_option maxHeartbeats 8000000 in
set_option maxRecDepth 100000 in
theorem tree_Path.calls (A0 : Option Addr) (c0 : Nat) (l0 : List (S24)) (a1 : Int) (r1 : List Int) (r2 : Int) (w : World) (hr0 : Kd.C k24 w A0 l0.length l0) (hc0 : l0.length ≤ c0) (h : tree_Path.f l0 a1 = some (r1, r2)) :
  Calls Try.prog 18 #[.slice A0 l0.length c0, .int .i64 a1] w fun e w' => ∃ v0_ : Value, e = .returned (.tuple #[v0_, .int .i64 r2]) ∧ Kd.R (Kd.int .i64) 3 w' w.heap.size (fun _ => True) v0_ r1 ∧ Below w.heap.size w w' := by
 have HR0 := Aside0.mk hr0
 have HC0 := Aside0.mk hc0
 clear hr0 hc0
 have HB := Aside0.mk (Below.refl w.heap.size w)
 have H : ((tree_get.f l0 a1).bind fun bt129 => (if bt129.2 = 0 then ((tree_path.f l0 bt129.1).bind fun t131 => (some (t131, 0))) else (some (([] : List Int), bt129.2)))) = some (r1, r2) := h
 clear h
 replace H := Option.bind_eq_some_iff.mp H
 obtain ⟨⟨t129, t130⟩, A30, H⟩ := H
 try dsimp only at H
 have A3 := Aside0.mk A30
 clear A30
 by_cases c4 : t130 = 0
 ·rw [if_pos c4] at H
  have c4b0 : (t130 == 0) = true := beq_iff_eq.mpr c4
  have c4b1 : (t130 != 0) = false := bne_eq_false_iff_eq.mpr c4
  clear c4
  replace H := Option.bind_eq_some_iff.mp H
  obtain ⟨t131, A50, H⟩ := H
  try dsimp only at H
  have A5 := Aside0.mk A50
  clear A50
  simp only [Option.some.injEq, Prod.mk.injEq] at H
  obtain ⟨rfl, rfl⟩ := H
  go_enter Try.func18, Try.ntmps18
  go_wp2_with (first | ((with_reducible refine gate_callee (f := 37) rfl ?_); refine goesL_ (some 11) rfl rfl Try.func37 (by kernel_rfl) rfl #[.slice A0 l0.length c0, .int .i64 a1] rfl (by (try simp only [List.map_toArray, List.map_cons, List.map_nil]); first | done | rfl | (simp only [List.length_drop, List.length_take]; rfl)) ?_; (with_reducible refine (tree_get.calls _ _ l0 a1 t129 t130 _ ?side1 ?side2 A3.out).mono ?_); (case side1 => repeat (first | exact HR0.out | (with_reducible refine Kd.C_alloc ?_ _) | (with_reducible refine Kd.C_drewN ?_ _) | (with_reducible refine Kd.C_drew ?_))); (case side2 => exact HC0.out); rintro e w6 ⟨rfl, hb⟩; refine ⟨_, rfl, ?_⟩; have n0_ := Aside0.mk (below_step (by repeat (first | (with_reducible first | exact HB.out | apply below_alloc | apply pw_below_drewN | apply below_drew1) | exact HB.out)) hb); clear HB; have HB := n0_; clear n0_; (try clear hb); (try clear hb2); (try clear hk); (try clear hi)) | ((with_reducible refine gate_callee (f := 40) rfl ?_); refine goesL_ (some 19) rfl rfl Try.func40 (by kernel_rfl) rfl #[.slice A0 l0.length c0, .int .i64 t129] rfl (by (try simp only [List.map_toArray, List.map_cons, List.map_nil]); first | done | rfl | (simp only [List.length_drop, List.length_take]; rfl)) ?_; (with_reducible refine (tree_path.calls _ _ l0 t129 t131 _ ?side1 ?side2 A5.out).mono ?_); (case side1 => repeat (first | exact (Kd.C_below HR0.out HB.out) | (with_reducible refine Kd.C_alloc ?_ _) | (with_reducible refine Kd.C_drewN ?_ _) | (with_reducible refine Kd.C_drew ?_))); (case side2 => exact HC0.out); rintro e w7 ⟨v132, rfl, ho0, hb⟩; refine ⟨_, rfl, ?_⟩; have n0_ := Aside0.mk (Kd.R_lower ho0 (below_size (by repeat (first | (with_reducible first | exact HB.out | apply below_alloc | apply pw_below_drewN | apply below_drew1) | exact HB.out)))); have n1_ := Aside0.mk (below_step (by repeat (first | (with_reducible first | exact HB.out | apply below_alloc | apply pw_below_drewN | apply below_drew1) | exact HB.out)) hb); clear HB; have HO133 := n0_; have HB := n1_; clear n0_ n1_; (try clear hb); (try clear hb2); (try clear hk); (try clear hi); (try clear ho0)))
  go_ret2
  exact ⟨_, by first | rfl | (simp [errW_none, errW_some] <;> rfl) | (simp [*, errW_none, errW_some] <;> rfl), by (with_reducible repeat (first | apply Kd.R_alloc | apply Kd.R_drewN | apply Kd.R_drew)); exact HO133.out, by repeat (first | (with_reducible first | exact HB.out | apply below_alloc | apply pw_below_drewN | apply below_drew1) | exact HB.out)⟩
 ·rw [if_neg c4] at H
  have c4b0 : (t130 == 0) = false := beq_eq_false_iff_ne.mpr c4
  have c4b1 : (t130 != 0) = true := bne_iff_ne.mpr c4
  simp only [Option.some.injEq, Prod.mk.injEq] at H
  obtain ⟨rfl, rfl⟩ := H
  go_enter Try.func18, Try.ntmps18
  go_wp2_with (first | ((with_reducible refine gate_callee (f := 37) rfl ?_); refine goesL_ (some 11) rfl rfl Try.func37 (by kernel_rfl) rfl #[.slice A0 l0.length c0, .int .i64 a1] rfl (by (try simp only [List.map_toArray, List.map_cons, List.map_nil]); first | done | rfl | (simp only [List.length_drop, List.length_take]; rfl)) ?_; (with_reducible refine (tree_get.calls _ _ l0 a1 t129 t130 _ ?side1 ?side2 A3.out).mono ?_); (case side1 => repeat (first | exact HR0.out | (with_reducible refine Kd.C_alloc ?_ _) | (with_reducible refine Kd.C_drewN ?_ _) | (with_reducible refine Kd.C_drew ?_))); (case side2 => exact HC0.out); rintro e w8 ⟨rfl, hb⟩; refine ⟨_, rfl, ?_⟩; have n0_ := Aside0.mk (below_step (by repeat (first | (with_reducible first | exact HB.out | apply below_alloc | apply pw_below_drewN | apply below_drew1) | exact HB.out)) hb); clear HB; have HB := n0_; clear n0_; (try clear hb); (try clear hb2); (try clear hk); (try clear hi)))
  go_ret2
  exact ⟨_, by first | rfl | (simp [errW_none, errW_some] <;> rfl) | (simp [*, errW_none, errW_some] <;> rfl), by first | exact Kd.R_nil _ _ _ _ _ | exact Kd.N_nil _ _ _ _ _ | exact Kd.V_nil _ _ _ _ _ | exact Kd.Q_nil _ _ _ _ _ | exact Kd.S_nil _ _ _ _ _, by repeat (first | (with_reducible first | exact HB.out | apply below_alloc | apply pw_below_drewN | apply below_drew1) | exact HB.out)⟩
end Go.Proofs.Ytpafhhgoldenoaa.P
end
section
namespace Go.Proofs.Ytpafhhgoldenoaa.P
open Go.RowKit Go.Proofs.YtpafhhgoldenoaaW.PrintWords Go.Proofs.YtpafhhgoldenoaaW.PrintLast Go.Proofs.YtpafhhgoldenoaaW.PrintMore
attribute [local go_sem] max2_int min2_int max_two min_two max_three min_three max_four min_four
set_option linter.unusedVariables false
set_option linter.unusedSimpArgs false
theorem eqA24 (d : Nat) (w : World) (x0 y0 : Int) (x1 y1 : Int) (x2 y2 : Int) (x3 y3 : Int) (x4 y4 : ByteArray) :
  (Op.equalIn (d + 2) 24 (.agg #[.int .i64 x0, .int .i64 x1, .int .i64 x2, .int .i64 x3, .string x4]) (.agg #[.int .i64 y0, .int .i64 y1, .int .i64 y2, .int .i64 y3, .string y4])).run Try.prog w = .ok (x0 == y0 && (x1 == y1 && (x2 == y2 && (x3 == y3 && (x4.toList == y4.toList))))) w := by
 refine eqA_of Try.underlying24 (by kernel_rfl) ?_
 refine eqf_cons (by rfl) (by go_simp; rfl) (by go_simp; rfl) (by go_simp) ?_
 refine eqf_cons (by rfl) (by go_simp; rfl) (by go_simp; rfl) (by go_simp) ?_
 refine eqf_cons (by rfl) (by go_simp; rfl) (by go_simp; rfl) (by go_simp) ?_
 refine eqf_cons (by rfl) (by go_simp; rfl) (by go_simp; rfl) (by go_simp) ?_
 exact eqf_last (by rfl) (by go_simp; rfl) (by go_simp; rfl) (by go_simp)
end Go.Proofs.Ytpafhhgoldenoaa.P
end
section
namespace Go.Proofs.Ytpafhhgoldenoaa.P
open Go.RowKit Go.Proofs.YtpafhhgoldenoaaW.PrintWords Go.Proofs.YtpafhhgoldenoaaW.PrintLast Go.Proofs.YtpafhhgoldenoaaW.PrintMore
attribute [local go_sem] max2_int min2_int max_two min_two max_three min_three max_four min_four
set_option linter.unusedVariables false
set_option linter.unusedSimpArgs false
attribute [local go_sem high] eqA24
def formeref10_Same.l0 : Nat → List (S24) → List (S24) → Int → Option (Bool)
 | 0, _, _, _ => none
 | k + 1, x0, x1, x5 => if x5 < (x0.length : Int) then (if 0 ≤ x5 then (if x5 < (x1.length : Int) then (if (!(((rd_T24 x0 x5).f0) == ((rd_T24 x1 x5).f0)) || (!(((rd_T24 x0 x5).f1) == ((rd_T24 x1 x5).f1)) || (!(((rd_T24 x0 x5).f2) == ((rd_T24 x1 x5).f2)) || (!(((rd_T24 x0 x5).f3) == ((rd_T24 x1 x5).f3)) || (!((((rd_T24 x0 x5).f4).toList) == (((rd_T24 x1 x5).f4).toList))))))) = true then (some false) else (formeref10_Same.l0 k x0 x1 (wrap64 (x5 + 1)))) else (none)) else (none)) else (some true)
def formeref10_Same.f (k : Nat) (l0 : List (S24)) (l1 : List (S24)) : Option (Bool) := if (l0.length : Int) = (l1.length : Int) then (formeref10_Same.l0 k l0 l1 0) else (some false)
theorem formeref10_Same.mono_l : ∀ k, (∀ y0 y1 y2, LeO (formeref10_Same.l0 k y0 y1 y2) (formeref10_Same.l0 (k + 1) y0 y1 y2))
 | 0 => fun _ _ _ r h => by simp [formeref10_Same.l0] at h
 | k + 1 => by
  have ih0 := formeref10_Same.mono_l k
  ·intro y0 y1 y2
   unfold formeref10_Same.l0
   repeat' first
   | (with_reducible exact ih0 _ _ _)
   | (with_reducible exact LeO.refl _)
   | (with_reducible exact LeO.none _)
   | (with_reducible refine LeO.ite ?_ ?_)
   | (with_reducible refine LeO.bind ?_ (fun _ => ?_))
   | exact ih0 _ _ _
   | exact LeO.none _
   | refine LeO.ite ?_ ?_
   | refine LeO.bind ?_ (fun _ => ?_)
theorem formeref10_Same.mono : ∀ a0 a1 k, LeO (formeref10_Same.f k a0 a1) (formeref10_Same.f (k + 1) a0 a1) := by
 intro a0 a1 k
 have ih0 := formeref10_Same.mono_l k
 unfold formeref10_Same.f
 repeat' first
   | (with_reducible exact ih0 _ _ _)
   | (with_reducible exact LeO.refl _)
   | (with_reducible exact LeO.none _)
   | (with_reducible refine LeO.ite ?_ ?_)
   | (with_reducible refine LeO.bind ?_ (fun _ => ?_))
   | exact ih0 _ _ _
   | exact LeO.none _
   | refine LeO.ite ?_ ?_
   | refine LeO.bind ?_ (fun _ => ?_)
set_option maxHeartbeats 8000000 in
set_option maxRecDepth 100000 in
theorem formeref10_Same.calls (k : Nat) (A0 : Option Addr) (c0 : Nat) (l0 : List (S24)) (A1 : Option Addr) (c1 : Nat) (l1 : List (S24)) (r : Bool) (w : World) (hr0 : Kd.C k24 w A0 l0.length l0) (hc0 : l0.length ≤ c0) (hr1 : Kd.C k24 w A1 l1.length l1) (hc1 : l1.length ≤ c1) (h : formeref10_Same.f k l0 l1 = some r) :
  Calls Try.prog 22 #[.slice A0 l0.length c0, .slice A1 l1.length c1] w fun e w' => e = .returned (.bool r) ∧ Drawn0 w w' := by
 have hu24 := Try.underlying24
 have HR0 := Aside0.mk hr0
 have HC0 := Aside0.mk hc0
 clear hr0 hc0
 have HR1 := Aside0.mk hr1
 have HC1 := Aside0.mk hc1
 clear hr1 hc1
 have H : (if (l0.length : Int) = (l1.length : Int) then (formeref10_Same.l0 k l0 l1 0) else (some false)) = some r := h
 clear h
 by_cases c3 : (l0.length : Int) = (l1.length : Int)
 ·rw [if_pos c3] at H
  have c3b0 : ((l0.length : Int) == (l1.length : Int)) = true := beq_iff_eq.mpr c3
  have c3b1 : ((l0.length : Int) != (l1.length : Int)) = false := bne_eq_false_iff_eq.mpr c3
  have c3b2 : (l0.length == l1.length) = true := by first | simpa using c3 | (simp at c3 ⊢; omega)
  clear c3
  have H' := Aside0.mk H
  clear H
  go_enter Try.func22, Try.ntmps22
  go_wp2
  repeat (go_quiet (fail); try go_wp2)
  go_loopg [5] k (fun kq v5 w' => ∃ (x5_1 : Int), v5 = .int .i64 x5_1 ∧ Aside0 (formeref10_Same.l0 kq l0 l1 x5_1 = some r) ∧ Aside0 (kq ≤ k) ∧ Drawn0 w w')
  case atStart => exact ⟨(0), (by first | rfl | (simp; done) | (simp [*]; done)), H', ⟨Nat.le_refl _⟩, by repeat (first | exact Drawn0.refl _ | apply Drawn0.step)⟩
  case round =>
   clear H'
   try clear c1
   try clear c2
   try clear p2
   try clear c3
   try clear c3b0
   try clear c3b1
   try clear c3b2
   obtain ⟨x5_1, rfl, HA, HK1, ⟨m1, rfl⟩⟩ := hrel
   cases gk with
   | zero => exact absurd HA.out (by simp [formeref10_Same.l0])
   | succ k1 =>
    have H := HA.out
    clear HA
    simp only [formeref10_Same.l0] at H
    by_cases c4 : x5_1 < (l0.length : Int)
    ·rw [if_pos c4] at H
     have c4b0 : decide (x5_1 < (l0.length : Int)) = true := decide_eq_true c4
     clear c4
     by_cases c5 : 0 ≤ x5_1
     rotate_left
     ·rw [if_neg c5] at H; exact absurd H (by simp)
     rw [if_pos c5] at H
     have c5b0 : decide (0 ≤ x5_1) = true := decide_eq_true c5
     clear c5
     by_cases c6 : x5_1 < (l1.length : Int)
     rotate_left
     ·rw [if_neg c6] at H; exact absurd H (by simp)
     rw [if_pos c6] at H
     have c6b0 : decide (x5_1 < (l1.length : Int)) = true := decide_eq_true c6
     clear c6
     by_cases c7 : (!(((rd_T24 l0 x5_1).f0) == ((rd_T24 l1 x5_1).f0)) || (!(((rd_T24 l0 x5_1).f1) == ((rd_T24 l1 x5_1).f1)) || (!(((rd_T24 l0 x5_1).f2) == ((rd_T24 l1 x5_1).f2)) || (!(((rd_T24 l0 x5_1).f3) == ((rd_T24 l1 x5_1).f3)) || (!((((rd_T24 l0 x5_1).f4).toList) == (((rd_T24 l1 x5_1).f4).toList))))))) = true
     ·rw [if_pos c7] at H
      have c7b0 : (!(((rd_T24 l0 x5_1).f0) == ((rd_T24 l1 x5_1).f0)) || (!(((rd_T24 l0 x5_1).f1) == ((rd_T24 l1 x5_1).f1)) || (!(((rd_T24 l0 x5_1).f2) == ((rd_T24 l1 x5_1).f2)) || (!(((rd_T24 l0 x5_1).f3) == ((rd_T24 l1 x5_1).f3)) || (!((((rd_T24 l0 x5_1).f4).toList) == (((rd_T24 l1 x5_1).f4).toList))))))) = true := c7
      clear c7
      obtain rfl := Option.some.inj H
      have p137 : 0 ≤ (x5_1 : Int) := of_decide_eq_true (by first | (with_reducible assumption) | assumption)
      have q137 : x5_1 < (l0.length : Int) := of_decide_eq_true (by first | (with_reducible assumption) | assumption)
      obtain ⟨ad137, e137, hx137_0, hx137_1, hx137_2, hx137_3, hx137_4⟩ := at_T24 HR0.out x5_1 p137 q137
      cases e137
      replace p137 := eq_true p137
      replace q137 := eq_true q137
      have p138 : 0 ≤ (x5_1 : Int) := of_decide_eq_true (by first | (with_reducible assumption) | assumption)
      have q138 : x5_1 < (l1.length : Int) := of_decide_eq_true (by first | (with_reducible assumption) | assumption)
      obtain ⟨ad138, e138, hx138_0, hx138_1, hx138_2, hx138_3, hx138_4⟩ := at_T24 HR1.out x5_1 p138 q138
      cases e138
      replace p138 := eq_true p138
      replace q138 := eq_true q138
      go_wp2
      repeat (go_quiet (fail); try go_wp2)
      go_ret
      exact ⟨by first | rfl | (simp; done) | (simp [*]; done), by repeat (first | exact Drawn0.refl _ | apply Drawn0.step)⟩
     ·rw [if_neg c7] at H
      have c7b0 : (!(((rd_T24 l0 x5_1).f0) == ((rd_T24 l1 x5_1).f0)) || (!(((rd_T24 l0 x5_1).f1) == ((rd_T24 l1 x5_1).f1)) || (!(((rd_T24 l0 x5_1).f2) == ((rd_T24 l1 x5_1).f2)) || (!(((rd_T24 l0 x5_1).f3) == ((rd_T24 l1 x5_1).f3)) || (!((((rd_T24 l0 x5_1).f4).toList) == (((rd_T24 l1 x5_1).f4).toList))))))) = false := by simpa using c7
      clear c7
      have H' := Aside0.mk H
      clear H
      have p137 : 0 ≤ (x5_1 : Int) := of_decide_eq_true (by first | (with_reducible assumption) | assumption)
      have q137 : x5_1 < (l0.length : Int) := of_decide_eq_true (by first | (with_reducible assumption) | assumption)
      obtain ⟨ad137, e137, hx137_0, hx137_1, hx137_2, hx137_3, hx137_4⟩ := at_T24 HR0.out x5_1 p137 q137
      cases e137
      replace p137 := eq_true p137
      replace q137 := eq_true q137
      have p138 : 0 ≤ (x5_1 : Int) := of_decide_eq_true (by first | (with_reducible assumption) | assumption)
      have q138 : x5_1 < (l1.length : Int) := of_decide_eq_true (by first | (with_reducible assumption) | assumption)
      obtain ⟨ad138, e138, hx138_0, hx138_1, hx138_2, hx138_3, hx138_4⟩ := at_T24 HR1.out x5_1 p138 q138
      cases e138
      replace p138 := eq_true p138
      replace q138 := eq_true q138
      go_wp2
      repeat (go_quiet (fail); try go_wp2)
      go_roundg k1
      case measure => have := HK1.out; omega
      case rel => exact ⟨(wrap64 (x5_1 + 1)), (by first | rfl | (simp; done) | (simp [*]; done)), H', ⟨by have := HK1.out; omega⟩, by repeat (first | exact Drawn0.refl _ | apply Drawn0.step)⟩
    ·rw [if_neg c4] at H
     have c4b0 : decide (x5_1 < (l0.length : Int)) = false := decide_eq_false c4
     clear c4
     obtain rfl := Option.some.inj H
     go_wp2
     repeat (go_quiet (fail); try go_wp2)
     go_ret
     exact ⟨by first | rfl | (simp; done) | (simp [*]; done), by repeat (first | exact Drawn0.refl _ | apply Drawn0.step)⟩
 ·rw [if_neg c3] at H
  have c3b0 : ((l0.length : Int) == (l1.length : Int)) = false := beq_eq_false_iff_ne.mpr c3
  have c3b1 : ((l0.length : Int) != (l1.length : Int)) = true := bne_iff_ne.mpr c3
  have c3b2 : (l0.length == l1.length) = false := by first | simpa using c3 | (simp at c3 ⊢; omega)
  obtain rfl := Option.some.inj H
  go_enter Try.func22, Try.ntmps22
  go_wp2
  repeat (go_quiet (fail); try go_wp2)
  go_ret
  exact ⟨by first | rfl | (simp; done) | (simp [*]; done), by repeat (first | exact Drawn0.refl _ | apply Drawn0.step)⟩
end Go.Proofs.Ytpafhhgoldenoaa.P
end
